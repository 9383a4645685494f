/- What the program's functions compute, each tied to its code: part 3. -/
import Derived.Test.YtppbpnknfigboaaGreatDoorF2
namespace Go.Proofs.YtppbpnknfigboaaGreatDoor.M
open Go Go.Amx
set_option linter.unusedVariables false
set_option maxRecDepth 100000
noncomputable def law15_Few.sp0 : Amx.Spec U := { slots := [(1, .ptr 1 0), (3, .val (Ty.int .i64))], boxes := [(1, Ty.HwCode, [])] }
noncomputable def law15_Few.b0 (N : Nat) (s3 : Int) (b1 : HwCode) : Option (Round Bool (Int × HwCode)) :=
  (cond (decide (s3 < (b1.Instructions.length : Int))) (some (decide (s3 < 244))) (some false)).bind fun g1001 => cond g1001 ((idx b1.Instructions s3).bind fun x1002 =>
    (cond (decide ((x1002.Text.size : Int) > 300)) (some true) ((idx b1.Instructions s3).bind fun x1003 => some (decide ((x1003.Other.size : Int) > 300)))).bind fun g1004 =>
    cond g1004 (some (.result false)) (some (.again ((IntKind.wrap .i64 (s3 + 1)), b1)))) (some (.leave (s3, b1)))
noncomputable def law15_Few.r0 (N : Nat) (x : Int × HwCode) : Option (Round Bool (Int × HwCode)) := law15_Few.b0 N x.1 x.2
noncomputable def law15_Few (N : Nat) (a0 : HwCode) : Option Bool :=
  (iterR (law15_Few.r0 N) N (0, a0)).bind fun z2 => resR z2 (fun z => some z) (fun y1 => (law15_fewStorage y1.2.Storage).bind fun r3 =>
    (cond r3 (some (decide ((y1.2.Instructions.length : Int) < 244))) (some false)).bind fun g4 => (cond g4 (some (decide ((y1.2.Traps.length : Int) < 44)))
    (some false)).bind fun g5 => some g5)
noncomputable def law15_Few.ct (N : Nat) : Ct U := { params := [.val Ty.HwCode], results := [Ty.bool], outs := [], fresh := [], fn := app U [Ty.HwCode] (R := PT U [Ty.bool]) (law15_Few N) }
noncomputable def law15_Few.cx (N : Nat) : Ctx U := mkCx [(46, law15_fewStorage.ct)] [] [] [] [] [] [] []
noncomputable def law15_Few.L (N : Nat) : Nat → Option (Cut U (PT U [Ty.bool])) := pick [(0, .rets law15_Few.sp0 [(Ty.int .i64), Ty.HwCode] (iterR (law15_Few.r0 N) N))]
theorem law15_Few.r0_eq (N : Nat) (x : PT U [(Ty.int .i64), Ty.HwCode]) : roundRF (law15_Few.cx N) Proofs.Tryz.f13 (law15_Few.ct N) (law15_Few.L N) law15_Few.sp0 [(Ty.int .i64), Ty.HwCode] 0 x = law15_Few.r0 N x := by kernel_rfl
theorem law15_Few.eq (N : Nat) (a0 : HwCode) : runF (law15_Few.cx N) Proofs.Tryz.f13 (law15_Few.ct N) (law15_Few.L N) [⟨Ty.HwCode, a0⟩] = law15_Few N a0 := by kernel_rfl
theorem law15_Few.ok (N : Nat) : ∀ y, finOk (law15_Few.cx N) (law15_Few.ct N) y = true := fun y => by kernel_rfl
theorem law15_Few.meets (N : Nat) : Meets (law15_Few.cx N) 13 (law15_Few.ct N) :=
  meets_run (C := law15_Few.cx N) (ct := law15_Few.ct N) (Lp := law15_Few.L N) claws (ook_of (l := [(46, law15_fewStorage.ct)]) rfl (all_cons (Meets.ctx (C := law15_fewStorage.cx) (C' := law15_Few.cx N) rfl rfl rfl law15_fewStorage.meets) (all_nil))) (xok_of (l := []) rfl (all_nil)) Proofs.Tryz.func13 (by kernel_rfl) rfl (lok_of (l := [(0, .rets law15_Few.sp0 [(Ty.int .i64), Ty.HwCode] (iterR (law15_Few.r0 N) N))]) rfl (all_cons (lok_rets (law15_Few.r0_eq N)) (all_nil))) (law15_Few.ok N) (app_run (U := U) [Ty.HwCode] (law15_Few N) (runF (law15_Few.cx N) Proofs.Tryz.f13 (law15_Few.ct N) (law15_Few.L N)) (law15_Few.eq N))

noncomputable def base_CopyBools (a0 : List Bool) : Option ((List Bool)) :=
  cond (Nat.ble (a0.length * 1) room) (some a0) none
noncomputable def base_CopyBools.ct : Ct U := { params := [.val (Ty.sl Ty.bool)], results := [(Ty.sl Ty.bool)], outs := [], fresh := [0], fn := app U [(Ty.sl Ty.bool)] (R := PT U [(Ty.sl Ty.bool)]) (base_CopyBools) }
noncomputable def base_CopyBools.cx : Ctx U := mkCx [] [] [] [] [] [] [] []
noncomputable def base_CopyBools.L : Nat → Option (Cut U (PT U [(Ty.sl Ty.bool)])) := pick []
theorem base_CopyBools.eq (a0 : List Bool) : runF (base_CopyBools.cx) Proofs.Tryz.f96 (base_CopyBools.ct) (base_CopyBools.L) [⟨(Ty.sl Ty.bool), a0⟩] = base_CopyBools a0 := by kernel_rfl
theorem base_CopyBools.ok : ∀ y, finOk (base_CopyBools.cx) (base_CopyBools.ct) y = true := fun y => by kernel_rfl
theorem base_CopyBools.meets : Meets (base_CopyBools.cx) 96 (base_CopyBools.ct) :=
  meets_run (C := base_CopyBools.cx) (ct := base_CopyBools.ct) (Lp := base_CopyBools.L) claws (ook_of (l := []) rfl (all_nil)) (xok_of (l := []) rfl (all_nil)) Proofs.Tryz.func96 (by kernel_rfl) rfl (lok_of (l := []) rfl (all_nil)) (base_CopyBools.ok) (app_run (U := U) [(Ty.sl Ty.bool)] (base_CopyBools) (runF (base_CopyBools.cx) Proofs.Tryz.f96 (base_CopyBools.ct) (base_CopyBools.L)) base_CopyBools.eq)

noncomputable def base_OwnStorage (a0 : Storage) : Option Storage :=
  (base_CopyBools a0.Tags).bind fun r1 => some (⟨a0.Bytes, r1⟩ : Storage)
noncomputable def base_OwnStorage.ct : Ct U := { params := [.val Ty.Storage], results := [Ty.Storage], outs := [], fresh := [1], fn := app U [Ty.Storage] (R := PT U [Ty.Storage]) (base_OwnStorage) }
noncomputable def base_OwnStorage.cx : Ctx U := mkCx [(96, base_CopyBools.ct)] [] [] [] [] [] [] []
noncomputable def base_OwnStorage.L : Nat → Option (Cut U (PT U [Ty.Storage])) := pick []
theorem base_OwnStorage.eq (a0 : Storage) : runF (base_OwnStorage.cx) Proofs.Tryz.f53 (base_OwnStorage.ct) (base_OwnStorage.L) [⟨Ty.Storage, a0⟩] = base_OwnStorage a0 := by kernel_rfl
theorem base_OwnStorage.ok : ∀ y, finOk (base_OwnStorage.cx) (base_OwnStorage.ct) y = true := fun y => by kernel_rfl
theorem base_OwnStorage.meets : Meets (base_OwnStorage.cx) 53 (base_OwnStorage.ct) :=
  meets_run (C := base_OwnStorage.cx) (ct := base_OwnStorage.ct) (Lp := base_OwnStorage.L) claws (ook_of (l := [(96, base_CopyBools.ct)]) rfl (all_cons (Meets.ctx (C := base_CopyBools.cx) (C' := base_OwnStorage.cx) rfl rfl rfl base_CopyBools.meets) (all_nil))) (xok_of (l := []) rfl (all_nil)) Proofs.Tryz.func53 (by kernel_rfl) rfl (lok_of (l := []) rfl (all_nil)) (base_OwnStorage.ok) (app_run (U := U) [Ty.Storage] (base_OwnStorage) (runF (base_OwnStorage.cx) Proofs.Tryz.f53 (base_OwnStorage.ct) (base_OwnStorage.L)) base_OwnStorage.eq)

noncomputable def ref15_OwnCode (a0 : HwCode) : Option HwCode :=
  (base_OwnStorage (⟨a0.Storage.Bytes, a0.Storage.Tags⟩ : Storage)).bind fun r1 => cond (Nat.ble (a0.Instructions.length * 224) room) (cond (Nat.ble (a0.Traps.length * 32) room)
    (some (⟨r1, a0.Instructions, a0.Traps⟩ : HwCode)) none) none
noncomputable def ref15_OwnCode.ct : Ct U := { params := [.val Ty.HwCode], results := [Ty.HwCode], outs := [], fresh := [], fn := app U [Ty.HwCode] (R := PT U [Ty.HwCode]) (ref15_OwnCode) }
noncomputable def ref15_OwnCode.cx : Ctx U := mkCx [(53, base_OwnStorage.ct)] [] [] [] [] [] [] []
noncomputable def ref15_OwnCode.L : Nat → Option (Cut U (PT U [Ty.HwCode])) := pick []
theorem ref15_OwnCode.eq (a0 : HwCode) : runF (ref15_OwnCode.cx) Proofs.Tryz.f15 (ref15_OwnCode.ct) (ref15_OwnCode.L) [⟨Ty.HwCode, a0⟩] = ref15_OwnCode a0 := by kernel_rfl
theorem ref15_OwnCode.ok : ∀ y, finOk (ref15_OwnCode.cx) (ref15_OwnCode.ct) y = true := fun y => by kernel_rfl
theorem ref15_OwnCode.meets : Meets (ref15_OwnCode.cx) 15 (ref15_OwnCode.ct) :=
  meets_run (C := ref15_OwnCode.cx) (ct := ref15_OwnCode.ct) (Lp := ref15_OwnCode.L) claws (ook_of (l := [(53, base_OwnStorage.ct)]) rfl (all_cons (Meets.ctx (C := base_OwnStorage.cx) (C' := ref15_OwnCode.cx) rfl rfl rfl base_OwnStorage.meets) (all_nil))) (xok_of (l := []) rfl (all_nil)) Proofs.Tryz.func15 (by kernel_rfl) rfl (lok_of (l := []) rfl (all_nil)) (ref15_OwnCode.ok) (app_run (U := U) [Ty.HwCode] (ref15_OwnCode) (runF (ref15_OwnCode.cx) Proofs.Tryz.f15 (ref15_OwnCode.ct) (ref15_OwnCode.L)) ref15_OwnCode.eq)

noncomputable def hardware_RunsOn_c1_c1 (a0 : Int) (a1 : HwModel) : Option Bool :=
  some (decide (a0 ≥ a1.Registers))
noncomputable def hardware_RunsOn_c1_c1.ct : Ct U := { params := [.val (Ty.int .i64), .ptr Ty.HwModel false []], results := [Ty.bool], outs := [], fresh := [], fn := app U [(Ty.int .i64), Ty.HwModel] (R := PT U [Ty.bool]) (hardware_RunsOn_c1_c1) }
noncomputable def hardware_RunsOn_c1_c1.cx : Ctx U := mkCx [] [] [] [] [] [1000000] [1000000] []
noncomputable def hardware_RunsOn_c1_c1.L : Nat → Option (Cut U (PT U [Ty.bool])) := pick []
theorem hardware_RunsOn_c1_c1.eq (a0 : Int) (a1 : HwModel) : runF (hardware_RunsOn_c1_c1.cx) Proofs.Tryz.f66 (hardware_RunsOn_c1_c1.ct) (hardware_RunsOn_c1_c1.L) [⟨(Ty.int .i64), a0⟩, ⟨Ty.HwModel, a1⟩] = hardware_RunsOn_c1_c1 a0 a1 := by kernel_rfl
theorem hardware_RunsOn_c1_c1.ok : ∀ y, finOk (hardware_RunsOn_c1_c1.cx) (hardware_RunsOn_c1_c1.ct) y = true := fun y => by kernel_rfl
theorem hardware_RunsOn_c1_c1.meets : Meets (hardware_RunsOn_c1_c1.cx) 66 (hardware_RunsOn_c1_c1.ct) :=
  meets_run (C := hardware_RunsOn_c1_c1.cx) (ct := hardware_RunsOn_c1_c1.ct) (Lp := hardware_RunsOn_c1_c1.L) claws (ook_of (l := []) rfl (all_nil)) (xok_of (l := []) rfl (all_nil)) Proofs.Tryz.func66 (by kernel_rfl) rfl (lok_of (l := []) rfl (all_nil)) (hardware_RunsOn_c1_c1.ok) (app_run (U := U) [(Ty.int .i64), Ty.HwModel] (hardware_RunsOn_c1_c1) (runF (hardware_RunsOn_c1_c1.cx) Proofs.Tryz.f66 (hardware_RunsOn_c1_c1.ct) (hardware_RunsOn_c1_c1.L)) hardware_RunsOn_c1_c1.eq)

noncomputable def slices_IndexFunc_int_f66.sp0 : Amx.Spec U := { slots := [(0, .val (Ty.sl (Ty.int .i64))), (1, .fn 66 [1000000]), (7, .val (Ty.int .i64)), (8, .val (Ty.int .i64))], boxes := [(1000000, Ty.HwModel, [])] }
noncomputable def slices_IndexFunc_int_f66.b0 (N : Nat) (s0 : List Int) (s7 : Int) (s8 : Int) (b1000000 : HwModel) : Option (Round Int ((List Int) × Int × Int × HwModel)) :=
  cond (decide (s8 < s7)) ((idx s0 s8).bind fun x1001 => (hardware_RunsOn_c1_c1 x1001 b1000000).bind fun r1002 => cond r1002 (some (.result s8))
    (some (.again (s0, s7, (IntKind.wrap .i64 (s8 + 1)), b1000000)))) (some (.leave (s0, s7, s8, b1000000)))
noncomputable def slices_IndexFunc_int_f66.r0 (N : Nat) (x : (List Int) × Int × Int × HwModel) : Option (Round Int ((List Int) × Int × Int × HwModel)) := slices_IndexFunc_int_f66.b0 N x.1 x.2.1 x.2.2.1 x.2.2.2
noncomputable def slices_IndexFunc_int_f66 (N : Nat) (a0 : List Int) (a1 : HwModel) : Option Int :=
  (iterR (slices_IndexFunc_int_f66.r0 N) N (a0, (a0.length : Int), 0, a1)).bind fun z2 => resR z2 (fun z => some z) (fun y1 => some (-1))
noncomputable def slices_IndexFunc_int_f66.ct (N : Nat) : Ct U := { params := [.val (Ty.sl (Ty.int .i64)), .clo 66 1, .ptr Ty.HwModel false []], results := [(Ty.int .i64)], outs := [], fresh := [], fn := app U [(Ty.sl (Ty.int .i64)), Ty.HwModel] (R := PT U [(Ty.int .i64)]) (slices_IndexFunc_int_f66 N) }
noncomputable def slices_IndexFunc_int_f66.cx (N : Nat) : Ctx U := mkCx [(66, hardware_RunsOn_c1_c1.ct)] [] [] [] [] [1000000] [1000000] []
noncomputable def slices_IndexFunc_int_f66.L (N : Nat) : Nat → Option (Cut U (PT U [(Ty.int .i64)])) := pick [(0, .rets slices_IndexFunc_int_f66.sp0 [(Ty.sl (Ty.int .i64)), (Ty.int .i64), (Ty.int .i64), Ty.HwModel] (iterR (slices_IndexFunc_int_f66.r0 N) N))]
theorem slices_IndexFunc_int_f66.r0_eq (N : Nat) (x : PT U [(Ty.sl (Ty.int .i64)), (Ty.int .i64), (Ty.int .i64), Ty.HwModel]) : roundRF (slices_IndexFunc_int_f66.cx N) Proofs.Tryz.f106 (slices_IndexFunc_int_f66.ct N) (slices_IndexFunc_int_f66.L N) slices_IndexFunc_int_f66.sp0 [(Ty.sl (Ty.int .i64)), (Ty.int .i64), (Ty.int .i64), Ty.HwModel] 0 x = slices_IndexFunc_int_f66.r0 N x := by kernel_rfl
theorem slices_IndexFunc_int_f66.eq (N : Nat) (a0 : List Int) (a1 : HwModel) : runF (slices_IndexFunc_int_f66.cx N) Proofs.Tryz.f106 (slices_IndexFunc_int_f66.ct N) (slices_IndexFunc_int_f66.L N) [⟨(Ty.sl (Ty.int .i64)), a0⟩, ⟨Ty.HwModel, a1⟩] = slices_IndexFunc_int_f66 N a0 a1 := by kernel_rfl
theorem slices_IndexFunc_int_f66.ok (N : Nat) : ∀ y, finOk (slices_IndexFunc_int_f66.cx N) (slices_IndexFunc_int_f66.ct N) y = true := fun y => by kernel_rfl
theorem slices_IndexFunc_int_f66.meets (N : Nat) : Meets (slices_IndexFunc_int_f66.cx N) 106 (slices_IndexFunc_int_f66.ct N) :=
  meets_run (C := slices_IndexFunc_int_f66.cx N) (ct := slices_IndexFunc_int_f66.ct N) (Lp := slices_IndexFunc_int_f66.L N) claws (ook_of (l := [(66, hardware_RunsOn_c1_c1.ct)]) rfl (all_cons (Meets.ctx (C := hardware_RunsOn_c1_c1.cx) (C' := slices_IndexFunc_int_f66.cx N) rfl rfl rfl hardware_RunsOn_c1_c1.meets) (all_nil))) (xok_of (l := []) rfl (all_nil)) Proofs.Tryz.func106 (by kernel_rfl) rfl (lok_of (l := [(0, .rets slices_IndexFunc_int_f66.sp0 [(Ty.sl (Ty.int .i64)), (Ty.int .i64), (Ty.int .i64), Ty.HwModel] (iterR (slices_IndexFunc_int_f66.r0 N) N))]) rfl (all_cons (lok_rets (slices_IndexFunc_int_f66.r0_eq N)) (all_nil))) (slices_IndexFunc_int_f66.ok N) (app_run (U := U) [(Ty.sl (Ty.int .i64)), Ty.HwModel] (slices_IndexFunc_int_f66 N) (runF (slices_IndexFunc_int_f66.cx N) Proofs.Tryz.f106 (slices_IndexFunc_int_f66.ct N) (slices_IndexFunc_int_f66.L N)) (slices_IndexFunc_int_f66.eq N))

noncomputable def slices_ContainsFunc_int_f66 (N : Nat) (a0 : List Int) (a1 : HwModel) : Option Bool :=
  (slices_IndexFunc_int_f66 N a0 a1).bind fun r1 => some (decide (r1 ≥ 0))
noncomputable def slices_ContainsFunc_int_f66.ct (N : Nat) : Ct U := { params := [.val (Ty.sl (Ty.int .i64)), .clo 66 1, .ptr Ty.HwModel false []], results := [Ty.bool], outs := [], fresh := [], fn := app U [(Ty.sl (Ty.int .i64)), Ty.HwModel] (R := PT U [Ty.bool]) (slices_ContainsFunc_int_f66 N) }
noncomputable def slices_ContainsFunc_int_f66.cx (N : Nat) : Ctx U := mkCx [(106, slices_IndexFunc_int_f66.ct N)] [] [] [] [] [1000000] [1000000] []
noncomputable def slices_ContainsFunc_int_f66.L (N : Nat) : Nat → Option (Cut U (PT U [Ty.bool])) := pick []
theorem slices_ContainsFunc_int_f66.eq (N : Nat) (a0 : List Int) (a1 : HwModel) : runF (slices_ContainsFunc_int_f66.cx N) Proofs.Tryz.f64 (slices_ContainsFunc_int_f66.ct N) (slices_ContainsFunc_int_f66.L N) [⟨(Ty.sl (Ty.int .i64)), a0⟩, ⟨Ty.HwModel, a1⟩] = slices_ContainsFunc_int_f66 N a0 a1 := by kernel_rfl
theorem slices_ContainsFunc_int_f66.ok (N : Nat) : ∀ y, finOk (slices_ContainsFunc_int_f66.cx N) (slices_ContainsFunc_int_f66.ct N) y = true := fun y => by kernel_rfl
theorem slices_ContainsFunc_int_f66.meets (N : Nat) : Meets (slices_ContainsFunc_int_f66.cx N) 64 (slices_ContainsFunc_int_f66.ct N) :=
  meets_run (C := slices_ContainsFunc_int_f66.cx N) (ct := slices_ContainsFunc_int_f66.ct N) (Lp := slices_ContainsFunc_int_f66.L N) claws (ook_of (l := [(106, slices_IndexFunc_int_f66.ct N)]) rfl (all_cons (Meets.ctx (C := slices_IndexFunc_int_f66.cx N) (C' := slices_ContainsFunc_int_f66.cx N) rfl rfl rfl (slices_IndexFunc_int_f66.meets N)) (all_nil))) (xok_of (l := []) rfl (all_nil)) Proofs.Tryz.func64 (by kernel_rfl) rfl (lok_of (l := []) rfl (all_nil)) (slices_ContainsFunc_int_f66.ok N) (app_run (U := U) [(Ty.sl (Ty.int .i64)), Ty.HwModel] (slices_ContainsFunc_int_f66 N) (runF (slices_ContainsFunc_int_f66.cx N) Proofs.Tryz.f64 (slices_ContainsFunc_int_f66.ct N) (slices_ContainsFunc_int_f66.L N)) (slices_ContainsFunc_int_f66.eq N))

noncomputable def hardware_RunsOn_c1 (N : Nat) (a0 : HwInstruction) (a1 : HwModel) : Option Bool :=
  (hardware_has a1 a0).bind fun r1 => (cond (!r1) (some true) ((hardware_registers N a0).bind fun r2 => (slices_ContainsFunc_int_f66 N r2 a1).bind fun r3 => some r3)).bind fun g4 =>
    some g4
noncomputable def hardware_RunsOn_c1.ct (N : Nat) : Ct U := { params := [.val Ty.HwInstruction, .ptr Ty.HwModel false []], results := [Ty.bool], outs := [], fresh := [], fn := app U [Ty.HwInstruction, Ty.HwModel] (R := PT U [Ty.bool]) (hardware_RunsOn_c1 N) }
noncomputable def hardware_RunsOn_c1.cx (N : Nat) : Ctx U := mkCx [(63, hardware_has.ct), (64, slices_ContainsFunc_int_f66.ct N), (65, hardware_registers.ct N)] [] [] [] [10] [1000000] [1000000] []
noncomputable def hardware_RunsOn_c1.L (N : Nat) : Nat → Option (Cut U (PT U [Ty.bool])) := pick []
theorem hardware_RunsOn_c1.eq (N : Nat) (a0 : HwInstruction) (a1 : HwModel) : runF (hardware_RunsOn_c1.cx N) Proofs.Tryz.f62 (hardware_RunsOn_c1.ct N) (hardware_RunsOn_c1.L N) [⟨Ty.HwInstruction, a0⟩, ⟨Ty.HwModel, a1⟩] = hardware_RunsOn_c1 N a0 a1 := by kernel_rfl
theorem hardware_RunsOn_c1.ok (N : Nat) : ∀ y, finOk (hardware_RunsOn_c1.cx N) (hardware_RunsOn_c1.ct N) y = true := fun y => by kernel_rfl
theorem hardware_RunsOn_c1.meets (N : Nat) : Meets (hardware_RunsOn_c1.cx N) 62 (hardware_RunsOn_c1.ct N) :=
  meets_run (C := hardware_RunsOn_c1.cx N) (ct := hardware_RunsOn_c1.ct N) (Lp := hardware_RunsOn_c1.L N) claws (ook_of (l := [(63, hardware_has.ct), (64, slices_ContainsFunc_int_f66.ct N), (65, hardware_registers.ct N)]) rfl (all_cons (Meets.ctx (C := hardware_has.cx) (C' := hardware_RunsOn_c1.cx N) rfl rfl rfl hardware_has.meets) (all_cons (Meets.ctx (C := slices_ContainsFunc_int_f66.cx N) (C' := hardware_RunsOn_c1.cx N) rfl rfl rfl (slices_ContainsFunc_int_f66.meets N)) (all_cons (Meets.ctx (C := hardware_registers.cx N) (C' := hardware_RunsOn_c1.cx N) rfl rfl rfl (hardware_registers.meets N)) (all_nil))))) (xok_of (l := []) rfl (all_nil)) Proofs.Tryz.func62 (by kernel_rfl) rfl (lok_of (l := []) rfl (all_nil)) (hardware_RunsOn_c1.ok N) (app_run (U := U) [Ty.HwInstruction, Ty.HwModel] (hardware_RunsOn_c1 N) (runF (hardware_RunsOn_c1.cx N) Proofs.Tryz.f62 (hardware_RunsOn_c1.ct N) (hardware_RunsOn_c1.L N)) (hardware_RunsOn_c1.eq N))

noncomputable def slices_IndexFunc_api_HwInstruction_f62.sp0 : Amx.Spec U := { slots := [(0, .val (Ty.sl Ty.HwInstruction)), (1, .fn 62 [1000000]), (7, .val (Ty.int .i64)), (8, .val (Ty.int .i64))], boxes := [(1000000, Ty.HwModel, [])] }
noncomputable def slices_IndexFunc_api_HwInstruction_f62.b0 (N : Nat) (s0 : List HwInstruction) (s7 : Int) (s8 : Int) (b1000000 : HwModel) : Option (Round Int ((List HwInstruction) × Int × Int × HwModel)) :=
  cond (decide (s8 < s7)) ((idx s0 s8).bind fun x1001 =>
    (hardware_RunsOn_c1 N (⟨x1001.Op, x1001.R, x1001.A, x1001.B, x1001.Calculation, (⟨x1001.Place.Based, x1001.Place.Pointer, x1001.Place.Offset⟩ : HwPlace), (⟨x1001.From.Based, x1001.From.Pointer, x1001.From.Offset⟩ : HwPlace), (⟨x1001.Type_.Kind, x1001.Type_.Length, x1001.Type_.Scale⟩ : DataType), (⟨x1001.Second.Kind, x1001.Second.Length, x1001.Second.Scale⟩ : DataType), x1001.Half, x1001.InStorage, (⟨x1001.Number.N, x1001.Number.Scale⟩ : Number), x1001.Text, x1001.Other, x1001.Mask, x1001.Target, x1001.Pointer, x1001.Source⟩ : HwInstruction) b1000000).bind fun r1002 =>
    cond r1002 (some (.result s8)) (some (.again (s0, s7, (IntKind.wrap .i64 (s8 + 1)), b1000000)))) (some (.leave (s0, s7, s8, b1000000)))
noncomputable def slices_IndexFunc_api_HwInstruction_f62.r0 (N : Nat) (x : (List HwInstruction) × Int × Int × HwModel) : Option (Round Int ((List HwInstruction) × Int × Int × HwModel)) := slices_IndexFunc_api_HwInstruction_f62.b0 N x.1 x.2.1 x.2.2.1 x.2.2.2
noncomputable def slices_IndexFunc_api_HwInstruction_f62 (N : Nat) (a0 : List HwInstruction) (a1 : HwModel) : Option Int :=
  (iterR (slices_IndexFunc_api_HwInstruction_f62.r0 N) N (a0, (a0.length : Int), 0, a1)).bind fun z2 => resR z2 (fun z => some z) (fun y1 => some (-1))
noncomputable def slices_IndexFunc_api_HwInstruction_f62.ct (N : Nat) : Ct U := { params := [.val (Ty.sl Ty.HwInstruction), .clo 62 1, .ptr Ty.HwModel false []], results := [(Ty.int .i64)], outs := [], fresh := [], fn := app U [(Ty.sl Ty.HwInstruction), Ty.HwModel] (R := PT U [(Ty.int .i64)]) (slices_IndexFunc_api_HwInstruction_f62 N) }
noncomputable def slices_IndexFunc_api_HwInstruction_f62.cx (N : Nat) : Ctx U := mkCx [(62, hardware_RunsOn_c1.ct N)] [] [] [] [] [1000000] [1000000] []
noncomputable def slices_IndexFunc_api_HwInstruction_f62.L (N : Nat) : Nat → Option (Cut U (PT U [(Ty.int .i64)])) := pick [(0, .rets slices_IndexFunc_api_HwInstruction_f62.sp0 [(Ty.sl Ty.HwInstruction), (Ty.int .i64), (Ty.int .i64), Ty.HwModel] (iterR (slices_IndexFunc_api_HwInstruction_f62.r0 N) N))]
theorem slices_IndexFunc_api_HwInstruction_f62.r0_eq (N : Nat) (x : PT U [(Ty.sl Ty.HwInstruction), (Ty.int .i64), (Ty.int .i64), Ty.HwModel]) : roundRF (slices_IndexFunc_api_HwInstruction_f62.cx N) Proofs.Tryz.f61 (slices_IndexFunc_api_HwInstruction_f62.ct N) (slices_IndexFunc_api_HwInstruction_f62.L N) slices_IndexFunc_api_HwInstruction_f62.sp0 [(Ty.sl Ty.HwInstruction), (Ty.int .i64), (Ty.int .i64), Ty.HwModel] 0 x = slices_IndexFunc_api_HwInstruction_f62.r0 N x := by kernel_rfl
theorem slices_IndexFunc_api_HwInstruction_f62.eq (N : Nat) (a0 : List HwInstruction) (a1 : HwModel) : runF (slices_IndexFunc_api_HwInstruction_f62.cx N) Proofs.Tryz.f61 (slices_IndexFunc_api_HwInstruction_f62.ct N) (slices_IndexFunc_api_HwInstruction_f62.L N) [⟨(Ty.sl Ty.HwInstruction), a0⟩, ⟨Ty.HwModel, a1⟩] = slices_IndexFunc_api_HwInstruction_f62 N a0 a1 := by kernel_rfl
theorem slices_IndexFunc_api_HwInstruction_f62.ok (N : Nat) : ∀ y, finOk (slices_IndexFunc_api_HwInstruction_f62.cx N) (slices_IndexFunc_api_HwInstruction_f62.ct N) y = true := fun y => by kernel_rfl
theorem slices_IndexFunc_api_HwInstruction_f62.meets (N : Nat) : Meets (slices_IndexFunc_api_HwInstruction_f62.cx N) 61 (slices_IndexFunc_api_HwInstruction_f62.ct N) :=
  meets_run (C := slices_IndexFunc_api_HwInstruction_f62.cx N) (ct := slices_IndexFunc_api_HwInstruction_f62.ct N) (Lp := slices_IndexFunc_api_HwInstruction_f62.L N) claws (ook_of (l := [(62, hardware_RunsOn_c1.ct N)]) rfl (all_cons (Meets.ctx (C := hardware_RunsOn_c1.cx N) (C' := slices_IndexFunc_api_HwInstruction_f62.cx N) rfl rfl rfl (hardware_RunsOn_c1.meets N)) (all_nil))) (xok_of (l := []) rfl (all_nil)) Proofs.Tryz.func61 (by kernel_rfl) rfl (lok_of (l := [(0, .rets slices_IndexFunc_api_HwInstruction_f62.sp0 [(Ty.sl Ty.HwInstruction), (Ty.int .i64), (Ty.int .i64), Ty.HwModel] (iterR (slices_IndexFunc_api_HwInstruction_f62.r0 N) N))]) rfl (all_cons (lok_rets (slices_IndexFunc_api_HwInstruction_f62.r0_eq N)) (all_nil))) (slices_IndexFunc_api_HwInstruction_f62.ok N) (app_run (U := U) [(Ty.sl Ty.HwInstruction), Ty.HwModel] (slices_IndexFunc_api_HwInstruction_f62 N) (runF (slices_IndexFunc_api_HwInstruction_f62.cx N) Proofs.Tryz.f61 (slices_IndexFunc_api_HwInstruction_f62.ct N) (slices_IndexFunc_api_HwInstruction_f62.L N)) (slices_IndexFunc_api_HwInstruction_f62.eq N))

noncomputable def hardware_RunsOn (N : Nat) (a0 : HwModel) (a1 : HwCode) : Option (Bool × Int × Int) :=
  (hardware_CheckModel a0).bind fun r1 => (hardware_codeErr N (⟨8, true, true⟩ : HwModel) a1).bind fun r2 => (hardware_first N ([r1, r2] : List Int)).bind fun r3 => cond (r3 != 0)
    (some (false, 0, r3)) ((slices_IndexFunc_api_HwInstruction_f62 N a1.Instructions (⟨a0.Registers, a0.Fused, a0.Memory⟩ : HwModel)).bind fun r4 => cond (decide (r4 < 0))
    (some (true, (a1.Instructions.length : Int), 0)) (some (false, r4, 0)))
noncomputable def hardware_RunsOn.ct (N : Nat) : Ct U := { params := [.val Ty.HwModel, .val Ty.HwCode], results := [Ty.bool, (Ty.int .i64), (Ty.int .i64)], outs := [], fresh := [], fn := app U [Ty.HwModel, Ty.HwCode] (R := PT U [Ty.bool, (Ty.int .i64), (Ty.int .i64)]) (hardware_RunsOn N) }
noncomputable def hardware_RunsOn.cx (N : Nat) : Ctx U := mkCx [(17, hardware_CheckModel.ct), (48, hardware_first.ct N), (60, hardware_codeErr.ct N), (61, slices_IndexFunc_api_HwInstruction_f62.ct N)] [] [] [] [12, 15, 16] [] [] []
noncomputable def hardware_RunsOn.L (N : Nat) : Nat → Option (Cut U (PT U [Ty.bool, (Ty.int .i64), (Ty.int .i64)])) := pick []
theorem hardware_RunsOn.eq (N : Nat) (a0 : HwModel) (a1 : HwCode) : runF (hardware_RunsOn.cx N) Proofs.Tryz.f23 (hardware_RunsOn.ct N) (hardware_RunsOn.L N) [⟨Ty.HwModel, a0⟩, ⟨Ty.HwCode, a1⟩] = hardware_RunsOn N a0 a1 := by kernel_rfl
theorem hardware_RunsOn.ok (N : Nat) : ∀ y, finOk (hardware_RunsOn.cx N) (hardware_RunsOn.ct N) y = true := fun y => by kernel_rfl
theorem hardware_RunsOn.meets (N : Nat) : Meets (hardware_RunsOn.cx N) 23 (hardware_RunsOn.ct N) :=
  meets_run (C := hardware_RunsOn.cx N) (ct := hardware_RunsOn.ct N) (Lp := hardware_RunsOn.L N) claws (ook_of (l := [(17, hardware_CheckModel.ct), (48, hardware_first.ct N), (60, hardware_codeErr.ct N), (61, slices_IndexFunc_api_HwInstruction_f62.ct N)]) rfl (all_cons (Meets.ctx (C := hardware_CheckModel.cx) (C' := hardware_RunsOn.cx N) rfl rfl rfl hardware_CheckModel.meets) (all_cons (Meets.ctx (C := hardware_first.cx N) (C' := hardware_RunsOn.cx N) rfl rfl rfl (hardware_first.meets N)) (all_cons (Meets.ctx (C := hardware_codeErr.cx N) (C' := hardware_RunsOn.cx N) rfl rfl rfl (hardware_codeErr.meets N)) (all_cons (Meets.ctx (C := slices_IndexFunc_api_HwInstruction_f62.cx N) (C' := hardware_RunsOn.cx N) rfl rfl rfl (slices_IndexFunc_api_HwInstruction_f62.meets N)) (all_nil)))))) (xok_of (l := []) rfl (all_nil)) Proofs.Tryz.func23 (by kernel_rfl) rfl (lok_of (l := []) rfl (all_nil)) (hardware_RunsOn.ok N) (app_run (U := U) [Ty.HwModel, Ty.HwCode] (hardware_RunsOn N) (runF (hardware_RunsOn.cx N) Proofs.Tryz.f23 (hardware_RunsOn.ct N) (hardware_RunsOn.L N)) (hardware_RunsOn.eq N))

noncomputable def base_Within (a0 : Int) (a1 : Int) (a2 : Int) : Option Bool :=
  (cond (decide (a1 ≤ a0)) (some (decide (a0 ≤ a2))) (some false)).bind fun g1 => some g1
noncomputable def base_Within.ct : Ct U := { params := [.val (Ty.int .i64), .val (Ty.int .i64), .val (Ty.int .i64)], results := [Ty.bool], outs := [], fresh := [], fn := app U [(Ty.int .i64), (Ty.int .i64), (Ty.int .i64)] (R := PT U [Ty.bool]) (base_Within) }
noncomputable def base_Within.cx : Ctx U := mkCx [] [] [] [] [] [] [] []
noncomputable def base_Within.L : Nat → Option (Cut U (PT U [Ty.bool])) := pick []
theorem base_Within.eq (a0 : Int) (a1 : Int) (a2 : Int) : runF (base_Within.cx) Proofs.Tryz.f57 (base_Within.ct) (base_Within.L) [⟨(Ty.int .i64), a0⟩, ⟨(Ty.int .i64), a1⟩, ⟨(Ty.int .i64), a2⟩] = base_Within a0 a1 a2 := by kernel_rfl
theorem base_Within.ok : ∀ y, finOk (base_Within.cx) (base_Within.ct) y = true := fun y => by kernel_rfl
theorem base_Within.meets : Meets (base_Within.cx) 57 (base_Within.ct) :=
  meets_run (C := base_Within.cx) (ct := base_Within.ct) (Lp := base_Within.L) claws (ook_of (l := []) rfl (all_nil)) (xok_of (l := []) rfl (all_nil)) Proofs.Tryz.func57 (by kernel_rfl) rfl (lok_of (l := []) rfl (all_nil)) (base_Within.ok) (app_run (U := U) [(Ty.int .i64), (Ty.int .i64), (Ty.int .i64)] (base_Within) (runF (base_Within.cx) Proofs.Tryz.f57 (base_Within.ct) (base_Within.L)) base_Within.eq)

noncomputable def ref15_ModelErr (a0 : HwModel) : Option Int :=
  (base_Within a0.Registers 2 8).bind fun r1 => cond (!r1) (some 3) (some 0)
noncomputable def ref15_ModelErr.ct : Ct U := { params := [.val Ty.HwModel], results := [(Ty.int .i64)], outs := [], fresh := [], fn := app U [Ty.HwModel] (R := PT U [(Ty.int .i64)]) (ref15_ModelErr) }
noncomputable def ref15_ModelErr.cx : Ctx U := mkCx [(57, base_Within.ct)] [] [] [] [] [] [] []
noncomputable def ref15_ModelErr.L : Nat → Option (Cut U (PT U [(Ty.int .i64)])) := pick []
theorem ref15_ModelErr.eq (a0 : HwModel) : runF (ref15_ModelErr.cx) Proofs.Tryz.f18 (ref15_ModelErr.ct) (ref15_ModelErr.L) [⟨Ty.HwModel, a0⟩] = ref15_ModelErr a0 := by kernel_rfl
theorem ref15_ModelErr.ok : ∀ y, finOk (ref15_ModelErr.cx) (ref15_ModelErr.ct) y = true := fun y => by kernel_rfl
theorem ref15_ModelErr.meets : Meets (ref15_ModelErr.cx) 18 (ref15_ModelErr.ct) :=
  meets_run (C := ref15_ModelErr.cx) (ct := ref15_ModelErr.ct) (Lp := ref15_ModelErr.L) claws (ook_of (l := [(57, base_Within.ct)]) rfl (all_cons (Meets.ctx (C := base_Within.cx) (C' := ref15_ModelErr.cx) rfl rfl rfl base_Within.meets) (all_nil))) (xok_of (l := []) rfl (all_nil)) Proofs.Tryz.func18 (by kernel_rfl) rfl (lok_of (l := []) rfl (all_nil)) (ref15_ModelErr.ok) (app_run (U := U) [Ty.HwModel] (ref15_ModelErr) (runF (ref15_ModelErr.cx) Proofs.Tryz.f18 (ref15_ModelErr.ct) (ref15_ModelErr.L)) ref15_ModelErr.eq)

noncomputable def ref15_Largest  : Option HwModel :=
  some (⟨8, true, true⟩ : HwModel)
noncomputable def ref15_Largest.ct : Ct U := { params := [], results := [Ty.HwModel], outs := [], fresh := [], fn := app U [] (R := PT U [Ty.HwModel]) (ref15_Largest) }
noncomputable def ref15_Largest.cx : Ctx U := mkCx [] [] [] [] [] [] [] []
noncomputable def ref15_Largest.L : Nat → Option (Cut U (PT U [Ty.HwModel])) := pick []
theorem ref15_Largest.eq  : runF (ref15_Largest.cx) Proofs.Tryz.f24 (ref15_Largest.ct) (ref15_Largest.L) [] = ref15_Largest := by kernel_rfl
theorem ref15_Largest.ok : ∀ y, finOk (ref15_Largest.cx) (ref15_Largest.ct) y = true := fun y => by kernel_rfl
theorem ref15_Largest.meets : Meets (ref15_Largest.cx) 24 (ref15_Largest.ct) :=
  meets_run (C := ref15_Largest.cx) (ct := ref15_Largest.ct) (Lp := ref15_Largest.L) claws (ook_of (l := []) rfl (all_nil)) (xok_of (l := []) rfl (all_nil)) Proofs.Tryz.func24 (by kernel_rfl) rfl (lok_of (l := []) rfl (all_nil)) (ref15_Largest.ok) (app_run (U := U) [] (ref15_Largest) (runF (ref15_Largest.cx) Proofs.Tryz.f24 (ref15_Largest.ct) (ref15_Largest.L)) ref15_Largest.eq)

noncomputable def ref03_quad (a0 : Storage) (a1 : Int) : Option ByteArray :=
  if 0 ≤ (IntKind.wrap .i64 ((IntKind.wrap .i64 (a1 * 16)) + 16)) ∧ (IntKind.wrap .i64 ((IntKind.wrap .i64 (a1 * 16)) + 16)) ≤ (a0.Bytes.size : Int) then (if 0 ≤ (IntKind.wrap .i64 (a1 * 16)) ∧ (IntKind.wrap .i64 (a1 * 16)) ≤ (IntKind.wrap .i64 ((IntKind.wrap .i64 (a1 * 16)) + 16)) then (some (a0.Bytes.extract (IntKind.wrap .i64 (a1 * 16)).toNat (IntKind.wrap .i64 ((IntKind.wrap .i64 (a1 * 16)) + 16)).toNat)) else none) else none
noncomputable def ref03_quad.ct : Ct U := { params := [.val Ty.Storage, .val (Ty.int .i64)], results := [Ty.str], outs := [], fresh := [], fn := app U [Ty.Storage, (Ty.int .i64)] (R := PT U [Ty.str]) (ref03_quad) }
noncomputable def ref03_quad.cx : Ctx U := mkCx [] [] [] [] [] [] [] []
noncomputable def ref03_quad.L : Nat → Option (Cut U (PT U [Ty.str])) := pick []
theorem ref03_quad.eq (a0 : Storage) (a1 : Int) : runF (ref03_quad.cx) Proofs.Tryz.f126 (ref03_quad.ct) (ref03_quad.L) [⟨Ty.Storage, a0⟩, ⟨(Ty.int .i64), a1⟩] = ref03_quad a0 a1 := by kernel_rfl
theorem ref03_quad.ok : ∀ y, finOk (ref03_quad.cx) (ref03_quad.ct) y = true := fun y => by kernel_rfl
theorem ref03_quad.meets : Meets (ref03_quad.cx) 126 (ref03_quad.ct) :=
  meets_run (C := ref03_quad.cx) (ct := ref03_quad.ct) (Lp := ref03_quad.L) claws (ook_of (l := []) rfl (all_nil)) (xok_of (l := []) rfl (all_nil)) Proofs.Tryz.func126 (by kernel_rfl) rfl (lok_of (l := []) rfl (all_nil)) (ref03_quad.ok) (app_run (U := U) [Ty.Storage, (Ty.int .i64)] (ref03_quad) (runF (ref03_quad.cx) Proofs.Tryz.f126 (ref03_quad.ct) (ref03_quad.L)) ref03_quad.eq)

noncomputable def base_Big.sp0 : Amx.Spec U := { slots := [(0, .val Ty.str), (1, .val (Ty.int .i64)), (2, .val (Ty.int .i64)), (7, .val (Ty.int .i64)), (8, .val (Ty.int .i64))], boxes := [] }
noncomputable def base_Big.b0 (N : Nat) (s0 : ByteArray) (s1 : Int) (s2 : Int) (s7 : Int) (s8 : Int) : Option (Stp (ByteArray × Int × Int × Int × Int)) :=
  cond (decide (s8 < s2)) ((idxB s0 (IntKind.wrap .i64 (s1 + s8))).bind fun x1001 =>
    some (.again (s0, s1, s2, (IntKind.wrap .i64 ((IntKind.wrap .i64 (s7 * 256)) + (IntKind.wrap .i64 (x1001.toNat : Int)))), (IntKind.wrap .i64 (s8 + 1)))))
    (some (.leave (s0, s1, s2, s7, s8)))
noncomputable def base_Big.r0 (N : Nat) (x : ByteArray × Int × Int × Int × Int) : Option (Stp (ByteArray × Int × Int × Int × Int)) := base_Big.b0 N x.1 x.2.1 x.2.2.1 x.2.2.2.1 x.2.2.2.2
noncomputable def base_Big (N : Nat) (a0 : ByteArray) (a1 : Int) (a2 : Int) : Option Int :=
  (iterP (base_Big.r0 N) N (a0, a1, a2, 0, 0)).bind fun y1 => some y1.2.2.2.1
noncomputable def base_Big.ct (N : Nat) : Ct U := { params := [.val Ty.str, .val (Ty.int .i64), .val (Ty.int .i64)], results := [(Ty.int .i64)], outs := [], fresh := [], fn := app U [Ty.str, (Ty.int .i64), (Ty.int .i64)] (R := PT U [(Ty.int .i64)]) (base_Big N) }
noncomputable def base_Big.cx (N : Nat) : Ctx U := mkCx [] [] [] [] [] [] [] []
noncomputable def base_Big.L (N : Nat) : Nat → Option (Cut U (PT U [(Ty.int .i64)])) := pick [(0, .plain base_Big.sp0 [Ty.str, (Ty.int .i64), (Ty.int .i64), (Ty.int .i64), (Ty.int .i64)] (iterP (base_Big.r0 N) N))]
theorem base_Big.r0_eq (N : Nat) (x : PT U [Ty.str, (Ty.int .i64), (Ty.int .i64), (Ty.int .i64), (Ty.int .i64)]) : roundPF (base_Big.cx N) Proofs.Tryz.f187 (base_Big.L N) base_Big.sp0 [Ty.str, (Ty.int .i64), (Ty.int .i64), (Ty.int .i64), (Ty.int .i64)] 0 x = base_Big.r0 N x := by kernel_rfl
theorem base_Big.eq (N : Nat) (a0 : ByteArray) (a1 : Int) (a2 : Int) : runF (base_Big.cx N) Proofs.Tryz.f187 (base_Big.ct N) (base_Big.L N) [⟨Ty.str, a0⟩, ⟨(Ty.int .i64), a1⟩, ⟨(Ty.int .i64), a2⟩] = base_Big N a0 a1 a2 := by kernel_rfl
theorem base_Big.ok (N : Nat) : ∀ y, finOk (base_Big.cx N) (base_Big.ct N) y = true := fun y => by kernel_rfl
theorem base_Big.meets (N : Nat) : Meets (base_Big.cx N) 187 (base_Big.ct N) :=
  meets_run (C := base_Big.cx N) (ct := base_Big.ct N) (Lp := base_Big.L N) claws (ook_of (l := []) rfl (all_nil)) (xok_of (l := []) rfl (all_nil)) Proofs.Tryz.func187 (by kernel_rfl) rfl (lok_of (l := [(0, .plain base_Big.sp0 [Ty.str, (Ty.int .i64), (Ty.int .i64), (Ty.int .i64), (Ty.int .i64)] (iterP (base_Big.r0 N) N))]) rfl (all_cons (lok_plain (base_Big.r0_eq N)) (all_nil))) (base_Big.ok N) (app_run (U := U) [Ty.str, (Ty.int .i64), (Ty.int .i64)] (base_Big N) (runF (base_Big.cx N) Proofs.Tryz.f187 (base_Big.ct N) (base_Big.L N)) (base_Big.eq N))

noncomputable def ref03_PointerErr (a0 : Pointer) : Option Int :=
  (base_Within a0.Kind 0 2).bind fun r1 => cond (!r1) (some 4) ((base_Within a0.Address.Segment 0 1099511627775).bind fun r2 => (cond (!r2) (some true)
    ((base_Within a0.Address.Offset 0 16777215).bind fun r3 => some (!r3))).bind fun g4 => (cond g4 (some true) ((base_Within a0.Authority 0 1023).bind fun r5 =>
    some (!r5))).bind fun g6 => cond g6 (some 3) ((cond (a0.Kind != 1) (some (a0.Authority != 0)) (some false)).bind fun g7 => cond g7 (some 5) (some 0)))
noncomputable def ref03_PointerErr.ct : Ct U := { params := [.val Ty.Pointer], results := [(Ty.int .i64)], outs := [], fresh := [], fn := app U [Ty.Pointer] (R := PT U [(Ty.int .i64)]) (ref03_PointerErr) }
noncomputable def ref03_PointerErr.cx : Ctx U := mkCx [(57, base_Within.ct)] [] [] [] [] [] [] []
noncomputable def ref03_PointerErr.L : Nat → Option (Cut U (PT U [(Ty.int .i64)])) := pick []
theorem ref03_PointerErr.eq (a0 : Pointer) : runF (ref03_PointerErr.cx) Proofs.Tryz.f188 (ref03_PointerErr.ct) (ref03_PointerErr.L) [⟨Ty.Pointer, a0⟩] = ref03_PointerErr a0 := by kernel_rfl
theorem ref03_PointerErr.ok : ∀ y, finOk (ref03_PointerErr.cx) (ref03_PointerErr.ct) y = true := fun y => by kernel_rfl
theorem ref03_PointerErr.meets : Meets (ref03_PointerErr.cx) 188 (ref03_PointerErr.ct) :=
  meets_run (C := ref03_PointerErr.cx) (ct := ref03_PointerErr.ct) (Lp := ref03_PointerErr.L) claws (ook_of (l := [(57, base_Within.ct)]) rfl (all_cons (Meets.ctx (C := base_Within.cx) (C' := ref03_PointerErr.cx) rfl rfl rfl base_Within.meets) (all_nil))) (xok_of (l := []) rfl (all_nil)) Proofs.Tryz.func188 (by kernel_rfl) rfl (lok_of (l := []) rfl (all_nil)) (ref03_PointerErr.ok) (app_run (U := U) [Ty.Pointer] (ref03_PointerErr) (runF (ref03_PointerErr.cx) Proofs.Tryz.f188 (ref03_PointerErr.ct) (ref03_PointerErr.L)) ref03_PointerErr.eq)

noncomputable def ref03_In (N : Nat) (a0 : ByteArray) : Option (Pointer × Int) :=
  cond ((a0.size : Int) != 16) (some ((⟨0, (⟨0, 0⟩ : Address), 0⟩ : Pointer), 18)) ((idxB a0 1).bind fun x1 => cond ((x1.toNat : Int) != 0)
    (some ((⟨0, (⟨0, 0⟩ : Address), 0⟩ : Pointer), 5)) ((idxB a0 0).bind fun x2 => (base_Big N a0 2 2).bind fun r3 => (base_Big N a0 4 6).bind fun r4 =>
    (base_Big N a0 10 6).bind fun r5 => (ref03_PointerErr (⟨(IntKind.wrap .i64 (x2.toNat : Int)), (⟨r4, r5⟩ : Address), r3⟩ : Pointer)).bind fun r6 => cond (r6 != 0)
    (some ((⟨0, (⟨0, 0⟩ : Address), 0⟩ : Pointer), r6)) (some ((⟨(IntKind.wrap .i64 (x2.toNat : Int)), (⟨r4, r5⟩ : Address), r3⟩ : Pointer), 0))))
noncomputable def ref03_In.ct (N : Nat) : Ct U := { params := [.val Ty.str], results := [Ty.Pointer, (Ty.int .i64)], outs := [], fresh := [], fn := app U [Ty.str] (R := PT U [Ty.Pointer, (Ty.int .i64)]) (ref03_In N) }
noncomputable def ref03_In.cx (N : Nat) : Ctx U := mkCx [(187, base_Big.ct N), (188, ref03_PointerErr.ct)] [] [] [] [] [] [] []
noncomputable def ref03_In.L (N : Nat) : Nat → Option (Cut U (PT U [Ty.Pointer, (Ty.int .i64)])) := pick []
theorem ref03_In.eq (N : Nat) (a0 : ByteArray) : runF (ref03_In.cx N) Proofs.Tryz.f125 (ref03_In.ct N) (ref03_In.L N) [⟨Ty.str, a0⟩] = ref03_In N a0 := by kernel_rfl
theorem ref03_In.ok (N : Nat) : ∀ y, finOk (ref03_In.cx N) (ref03_In.ct N) y = true := fun y => by kernel_rfl
theorem ref03_In.meets (N : Nat) : Meets (ref03_In.cx N) 125 (ref03_In.ct N) :=
  meets_run (C := ref03_In.cx N) (ct := ref03_In.ct N) (Lp := ref03_In.L N) claws (ook_of (l := [(187, base_Big.ct N), (188, ref03_PointerErr.ct)]) rfl (all_cons (Meets.ctx (C := base_Big.cx N) (C' := ref03_In.cx N) rfl rfl rfl (base_Big.meets N)) (all_cons (Meets.ctx (C := ref03_PointerErr.cx) (C' := ref03_In.cx N) rfl rfl rfl ref03_PointerErr.meets) (all_nil)))) (xok_of (l := []) rfl (all_nil)) Proofs.Tryz.func125 (by kernel_rfl) rfl (lok_of (l := []) rfl (all_nil)) (ref03_In.ok N) (app_run (U := U) [Ty.str] (ref03_In N) (runF (ref03_In.cx N) Proofs.Tryz.f125 (ref03_In.ct N) (ref03_In.L N)) (ref03_In.eq N))

noncomputable def ref03_Check.sp0 : Amx.Spec U := { slots := [(1, .ptr 1 0), (4, .val (Ty.int .i64)), (5, .val (Ty.int .i64))], boxes := [(1, Ty.Storage, [])] }
noncomputable def ref03_Check.b0 (N : Nat) (s4 : Int) (s5 : Int) (b1 : Storage) : Option (Round (Int × Int) (Int × Int × Storage)) :=
  cond (decide (s5 < s4)) ((idx b1.Tags s5).bind fun x1001 => cond x1001 ((ref03_quad b1 s5).bind fun r1002 => (ref03_In N r1002).bind fun r1003 => cond (r1003.2 != 0)
    (some (.result (s5, 22))) (some (.again (s4, (IntKind.wrap .i64 (s5 + 1)), b1)))) (some (.again (s4, (IntKind.wrap .i64 (s5 + 1)), b1)))) (some (.leave (s4, s5, b1)))
noncomputable def ref03_Check.r0 (N : Nat) (x : Int × Int × Storage) : Option (Round (Int × Int) (Int × Int × Storage)) := ref03_Check.b0 N x.1 x.2.1 x.2.2
noncomputable def ref03_Check (N : Nat) (a0 : Storage) : Option (Int × Int) :=
  cond (decide ((a0.Bytes.size : Int) > 1024)) (some (0, 2)) (cond (((a0.Bytes.size : Int).tmod 16) != 0) (some (0, 18))
    (cond ((a0.Tags.length : Int) != (IntKind.wrap .i64 ((a0.Bytes.size : Int).tdiv 16))) (some (0, 6))
    ((iterR (ref03_Check.r0 N) N ((IntKind.wrap .i64 ((a0.Bytes.size : Int).tdiv 16)), 0, a0)).bind fun z2 => resR z2 (fun z => some z) (fun y1 => some (y1.1, 0)))))
noncomputable def ref03_Check.ct (N : Nat) : Ct U := { params := [.val Ty.Storage], results := [(Ty.int .i64), (Ty.int .i64)], outs := [], fresh := [], fn := app U [Ty.Storage] (R := PT U [(Ty.int .i64), (Ty.int .i64)]) (ref03_Check N) }
noncomputable def ref03_Check.cx (N : Nat) : Ctx U := mkCx [(125, ref03_In.ct N), (126, ref03_quad.ct)] [] [] [] [39] [] [] []
noncomputable def ref03_Check.L (N : Nat) : Nat → Option (Cut U (PT U [(Ty.int .i64), (Ty.int .i64)])) := pick [(0, .rets ref03_Check.sp0 [(Ty.int .i64), (Ty.int .i64), Ty.Storage] (iterR (ref03_Check.r0 N) N))]
theorem ref03_Check.r0_eq (N : Nat) (x : PT U [(Ty.int .i64), (Ty.int .i64), Ty.Storage]) : roundRF (ref03_Check.cx N) Proofs.Tryz.f97 (ref03_Check.ct N) (ref03_Check.L N) ref03_Check.sp0 [(Ty.int .i64), (Ty.int .i64), Ty.Storage] 0 x = ref03_Check.r0 N x := by kernel_rfl
theorem ref03_Check.eq (N : Nat) (a0 : Storage) : runF (ref03_Check.cx N) Proofs.Tryz.f97 (ref03_Check.ct N) (ref03_Check.L N) [⟨Ty.Storage, a0⟩] = ref03_Check N a0 := by kernel_rfl
theorem ref03_Check.ok (N : Nat) : ∀ y, finOk (ref03_Check.cx N) (ref03_Check.ct N) y = true := fun y => by kernel_rfl
theorem ref03_Check.meets (N : Nat) : Meets (ref03_Check.cx N) 97 (ref03_Check.ct N) :=
  meets_run (C := ref03_Check.cx N) (ct := ref03_Check.ct N) (Lp := ref03_Check.L N) claws (ook_of (l := [(125, ref03_In.ct N), (126, ref03_quad.ct)]) rfl (all_cons (Meets.ctx (C := ref03_In.cx N) (C' := ref03_Check.cx N) rfl rfl rfl (ref03_In.meets N)) (all_cons (Meets.ctx (C := ref03_quad.cx) (C' := ref03_Check.cx N) rfl rfl rfl ref03_quad.meets) (all_nil)))) (xok_of (l := []) rfl (all_nil)) Proofs.Tryz.func97 (by kernel_rfl) rfl (lok_of (l := [(0, .rets ref03_Check.sp0 [(Ty.int .i64), (Ty.int .i64), Ty.Storage] (iterR (ref03_Check.r0 N) N))]) rfl (all_cons (lok_rets (ref03_Check.r0_eq N)) (all_nil))) (ref03_Check.ok N) (app_run (U := U) [Ty.Storage] (ref03_Check N) (runF (ref03_Check.cx N) Proofs.Tryz.f97 (ref03_Check.ct N) (ref03_Check.L N)) (ref03_Check.eq N))

noncomputable def ref03_Err (N : Nat) (a0 : Storage) : Option Int :=
  (ref03_Check N (⟨a0.Bytes, a0.Tags⟩ : Storage)).bind fun r1 => some r1.2
noncomputable def ref03_Err.ct (N : Nat) : Ct U := { params := [.val Ty.Storage], results := [(Ty.int .i64)], outs := [], fresh := [], fn := app U [Ty.Storage] (R := PT U [(Ty.int .i64)]) (ref03_Err N) }
noncomputable def ref03_Err.cx (N : Nat) : Ctx U := mkCx [(97, ref03_Check.ct N)] [] [] [] [] [] [] []
noncomputable def ref03_Err.L (N : Nat) : Nat → Option (Cut U (PT U [(Ty.int .i64)])) := pick []
theorem ref03_Err.eq (N : Nat) (a0 : Storage) : runF (ref03_Err.cx N) Proofs.Tryz.f54 (ref03_Err.ct N) (ref03_Err.L N) [⟨Ty.Storage, a0⟩] = ref03_Err N a0 := by kernel_rfl
theorem ref03_Err.ok (N : Nat) : ∀ y, finOk (ref03_Err.cx N) (ref03_Err.ct N) y = true := fun y => by kernel_rfl
theorem ref03_Err.meets (N : Nat) : Meets (ref03_Err.cx N) 54 (ref03_Err.ct N) :=
  meets_run (C := ref03_Err.cx N) (ct := ref03_Err.ct N) (Lp := ref03_Err.L N) claws (ook_of (l := [(97, ref03_Check.ct N)]) rfl (all_cons (Meets.ctx (C := ref03_Check.cx N) (C' := ref03_Err.cx N) rfl rfl rfl (ref03_Check.meets N)) (all_nil))) (xok_of (l := []) rfl (all_nil)) Proofs.Tryz.func54 (by kernel_rfl) rfl (lok_of (l := []) rfl (all_nil)) (ref03_Err.ok N) (app_run (U := U) [Ty.Storage] (ref03_Err N) (runF (ref03_Err.cx N) Proofs.Tryz.f54 (ref03_Err.ct N) (ref03_Err.L N)) (ref03_Err.eq N))

noncomputable def ref03_Pointers.sp0 : Amx.Spec U := { slots := [(1, .ptr 1 0), (3, .own 5000003 (Ty.int .i64)), (4, .val (Ty.int .i64))], boxes := [(1, Ty.Storage, [])] }
noncomputable def ref03_Pointers.b0 (N : Nat) (s3 : List Int) (s4 : Int) (b1 : Storage) : Option (Stp ((List Int) × Int × Storage)) :=
  cond (decide (s4 < (b1.Tags.length : Int))) ((idx b1.Tags s4).bind fun x1001 =>
    cond x1001 (cond (Nat.ble ((s3.length + ([(IntKind.wrap .i64 (s4 * 16))] : List Int).length) * 8) room)
    (some (.again ((s3 ++ ([(IntKind.wrap .i64 (s4 * 16))] : List Int)), (IntKind.wrap .i64 (s4 + 1)), b1))) none) (some (.again (s3, (IntKind.wrap .i64 (s4 + 1)), b1))))
    (some (.leave (s3, s4, b1)))
noncomputable def ref03_Pointers.r0 (N : Nat) (x : (List Int) × Int × Storage) : Option (Stp ((List Int) × Int × Storage)) := ref03_Pointers.b0 N x.1 x.2.1 x.2.2
noncomputable def ref03_Pointers (N : Nat) (a0 : Storage) : Option ((List Int)) :=
  (iterP (ref03_Pointers.r0 N) N ([], 0, a0)).bind fun y1 => some y1.1
noncomputable def ref03_Pointers.ct (N : Nat) : Ct U := { params := [.val Ty.Storage], results := [(Ty.sl (Ty.int .i64))], outs := [], fresh := [], fn := app U [Ty.Storage] (R := PT U [(Ty.sl (Ty.int .i64))]) (ref03_Pointers N) }
noncomputable def ref03_Pointers.cx (N : Nat) : Ctx U := mkCx [] [] [] [] [20] [] [] []
noncomputable def ref03_Pointers.L (N : Nat) : Nat → Option (Cut U (PT U [(Ty.sl (Ty.int .i64))])) := pick [(0, .plain ref03_Pointers.sp0 [(Ty.sl (Ty.int .i64)), (Ty.int .i64), Ty.Storage] (iterP (ref03_Pointers.r0 N) N))]
theorem ref03_Pointers.r0_eq (N : Nat) (x : PT U [(Ty.sl (Ty.int .i64)), (Ty.int .i64), Ty.Storage]) : roundPF (ref03_Pointers.cx N) Proofs.Tryz.f55 (ref03_Pointers.L N) ref03_Pointers.sp0 [(Ty.sl (Ty.int .i64)), (Ty.int .i64), Ty.Storage] 0 x = ref03_Pointers.r0 N x := by kernel_rfl
theorem ref03_Pointers.eq (N : Nat) (a0 : Storage) : runF (ref03_Pointers.cx N) Proofs.Tryz.f55 (ref03_Pointers.ct N) (ref03_Pointers.L N) [⟨Ty.Storage, a0⟩] = ref03_Pointers N a0 := by kernel_rfl
theorem ref03_Pointers.ok (N : Nat) : ∀ y, finOk (ref03_Pointers.cx N) (ref03_Pointers.ct N) y = true := fun y => by kernel_rfl
theorem ref03_Pointers.meets (N : Nat) : Meets (ref03_Pointers.cx N) 55 (ref03_Pointers.ct N) :=
  meets_run (C := ref03_Pointers.cx N) (ct := ref03_Pointers.ct N) (Lp := ref03_Pointers.L N) claws (ook_of (l := []) rfl (all_nil)) (xok_of (l := []) rfl (all_nil)) Proofs.Tryz.func55 (by kernel_rfl) rfl (lok_of (l := [(0, .plain ref03_Pointers.sp0 [(Ty.sl (Ty.int .i64)), (Ty.int .i64), Ty.Storage] (iterP (ref03_Pointers.r0 N) N))]) rfl (all_cons (lok_plain (ref03_Pointers.r0_eq N)) (all_nil))) (ref03_Pointers.ok N) (app_run (U := U) [Ty.Storage] (ref03_Pointers N) (runF (ref03_Pointers.cx N) Proofs.Tryz.f55 (ref03_Pointers.ct N) (ref03_Pointers.L N)) (ref03_Pointers.eq N))

noncomputable def ref15_used (a0 : HwInstruction) : Option ref15_fields :=
  cond (a0.Op == 0) (some (⟨true, false, false, true, false, false, false, false, false, false, false, false, false, false, 1, 0⟩ : ref15_fields)) (cond (a0.Op == 1)
    (some (⟨true, false, false, true, false, true, false, false, false, false, false, false, false, false, 1, 0⟩ : ref15_fields)) (cond (a0.Op == 2)
    (some (⟨true, false, false, false, false, false, true, false, false, false, false, false, false, false, 0, 0⟩ : ref15_fields)) (cond (a0.Op == 3)
    (some (⟨true, true, false, false, false, false, false, false, false, false, false, false, false, false, 0, 0⟩ : ref15_fields)) (cond (a0.Op == 4)
    (cond a0.InStorage (some (⟨true, true, false, true, false, false, false, true, false, false, false, false, false, false, 1, 1⟩ : ref15_fields))
    (some (⟨true, true, true, false, false, false, false, true, false, false, false, false, false, false, 1, 0⟩ : ref15_fields))) (cond (a0.Op == 5)
    (some (⟨false, true, true, false, false, false, false, false, false, false, false, false, false, false, 0, 0⟩ : ref15_fields)) (cond (a0.Op == 6)
    (some (⟨false, false, false, false, false, false, false, false, true, true, false, false, false, false, 0, 0⟩ : ref15_fields)) (cond (a0.Op == 7)
    (some (⟨false, true, true, false, false, false, false, false, true, true, false, false, false, false, 0, 0⟩ : ref15_fields)) ((cond (a0.Op == 8) (some (a0.Op == 8))
    (some (a0.Op == 18))).bind fun q1 => cond q1 (some (⟨false, false, false, false, false, false, false, false, false, true, false, false, false, false, 0, 0⟩ : ref15_fields))
    ((cond (a0.Op == 9) (some (a0.Op == 9)) (some (a0.Op == 11))).bind fun q2 =>
    cond q2 (some (⟨false, false, false, true, true, false, false, false, false, false, false, false, false, false, 2, 2⟩ : ref15_fields)) ((cond (a0.Op == 10) (some (a0.Op == 10))
    (some (a0.Op == 12))).bind fun q3 => cond q3 (some (⟨false, false, false, true, false, false, false, false, false, false, true, false, false, false, 2, 0⟩ : ref15_fields))
    (cond (a0.Op == 13) (some (⟨false, false, false, false, false, false, false, false, false, false, true, true, false, false, 0, 0⟩ : ref15_fields)) (cond (a0.Op == 14)
    (some (⟨false, false, false, true, false, false, false, false, false, false, false, false, true, false, 3, 0⟩ : ref15_fields)) (cond (a0.Op == 15)
    (some (⟨false, false, false, false, false, false, false, false, false, false, false, false, true, true, 0, 0⟩ : ref15_fields)) (cond (a0.Op == 16)
    (some (⟨true, false, false, false, false, false, false, false, false, false, false, false, true, false, 0, 0⟩ : ref15_fields)) (cond (a0.Op == 17)
    (some (⟨false, false, false, false, false, false, false, false, false, false, false, false, true, false, 0, 0⟩ : ref15_fields)) ((cond (a0.Op == 20) (some (a0.Op == 20))
    (cond (a0.Op == 21) (some (a0.Op == 21)) (some (a0.Op == 22)))).bind fun q4 =>
    cond q4 (some (⟨true, false, false, false, false, false, false, false, false, false, false, false, false, false, 0, 0⟩ : ref15_fields)) (cond (a0.Op == 23)
    (some (⟨false, false, false, true, false, false, false, false, false, false, false, false, false, false, 2, 0⟩ : ref15_fields)) (cond (a0.Op == 24)
    (some (⟨false, false, false, false, false, false, false, false, false, false, true, false, false, false, 0, 0⟩ : ref15_fields))
    (some (⟨false, false, false, false, false, false, false, false, false, false, false, false, false, false, 0, 0⟩ : ref15_fields))))))))))))))))))))
noncomputable def ref15_used.ct : Ct U := { params := [.val Ty.HwInstruction], results := [Ty.ref15_fields], outs := [], fresh := [], fn := app U [Ty.HwInstruction] (R := PT U [Ty.ref15_fields]) (ref15_used) }
noncomputable def ref15_used.cx : Ctx U := mkCx [] [] [] [] [] [] [] [32, 36, 40, 59]
noncomputable def ref15_used.L : Nat → Option (Cut U (PT U [Ty.ref15_fields])) := pick []
theorem ref15_used.eq (a0 : HwInstruction) : runF (ref15_used.cx) Proofs.Tryz.f98 (ref15_used.ct) (ref15_used.L) [⟨Ty.HwInstruction, a0⟩] = ref15_used a0 := by kernel_rfl
theorem ref15_used.ok : ∀ y, finOk (ref15_used.cx) (ref15_used.ct) y = true := fun y => by kernel_rfl
theorem ref15_used.meets : Meets (ref15_used.cx) 98 (ref15_used.ct) :=
  meets_run (C := ref15_used.cx) (ct := ref15_used.ct) (Lp := ref15_used.L) claws (ook_of (l := []) rfl (all_nil)) (xok_of (l := []) rfl (all_nil)) Proofs.Tryz.func98 (by kernel_rfl) rfl (lok_of (l := []) rfl (all_nil)) (ref15_used.ok) (app_run (U := U) [Ty.HwInstruction] (ref15_used) (runF (ref15_used.cx) Proofs.Tryz.f98 (ref15_used.ct) (ref15_used.L)) ref15_used.eq)

noncomputable def ref15_hasExtra (a0 : HwInstruction) (a1 : ref15_fields) : Option Bool :=
  (cond (!a1.R) (some (a0.R != 0)) (some false)).bind fun g1 => (cond g1 (some true) ((cond (!a1.A) (some (a0.A != 0)) (some false)).bind fun g2 => some g2)).bind fun g3 =>
    (cond g3 (some true) ((cond (!a1.B) (some (a0.B != 0)) (some false)).bind fun g4 => some g4)).bind fun g5 => (cond g5 (some true) ((cond (!a1.Calculation)
    (some (a0.Calculation != 0)) (some false)).bind fun g6 => some g6)).bind fun g7 => (cond g7 (some true) ((cond (!a1.Place)
    (some (!(eqAll [(a0.Place.Based == false), (a0.Place.Pointer == 0), (a0.Place.Offset == 0)]))) (some false)).bind fun g8 => some g8)).bind fun g9 => (cond g9 (some true)
    ((cond (!a1.From) (some (!(eqAll [(a0.From.Based == false), (a0.From.Pointer == 0), (a0.From.Offset == 0)]))) (some false)).bind fun g10 => some g10)).bind fun g11 =>
    (cond g11 (some true) ((cond (a1.Type_ == 0) (some (!(eqAll [(a0.Type_.Kind == 0), (a0.Type_.Length == 0), (a0.Type_.Scale == 0)]))) (some false)).bind fun g12 =>
    some g12)).bind fun g13 => (cond g13 (some true) ((cond (a1.Second == 0) (some (!(eqAll [(a0.Second.Kind == 0), (a0.Second.Length == 0), (a0.Second.Scale == 0)])))
    (some false)).bind fun g14 => some g14)).bind fun g15 => (cond g15 (some true) ((cond (!a1.Half) (some a0.Half) (some false)).bind fun g16 => some g16)).bind fun g17 =>
    (cond g17 (some true) ((cond (a0.Op != 4) (some a0.InStorage) (some false)).bind fun g18 => some g18)).bind fun g19 => (cond g19 (some true) ((cond (!a1.Number)
    (some (!(eqAll [(a0.Number.N == 0), (a0.Number.Scale == 0)]))) (some false)).bind fun g20 => some g20)).bind fun g21 => (cond g21 (some true) ((cond (!a1.Text)
    (some (!(a0.Text.toList == (⟨#[]⟩ : ByteArray).toList))) (some false)).bind fun g22 => some g22)).bind fun g23 => (cond g23 (some true) ((cond (!a1.Other)
    (some (!(a0.Other.toList == (⟨#[]⟩ : ByteArray).toList))) (some false)).bind fun g24 => some g24)).bind fun g25 => (cond g25 (some true) ((cond (!a1.Mask) (some (a0.Mask != 0))
    (some false)).bind fun g26 => some g26)).bind fun g27 => (cond g27 (some true) ((cond (!a1.Target) (some (a0.Target != 0)) (some false)).bind fun g28 => some g28)).bind fun g29 =>
    (cond g29 (some true) ((cond (!a1.Pointer) (some (a0.Pointer != 0)) (some false)).bind fun g30 => some g30)).bind fun g31 => (cond g31 (some true) ((cond (!a1.Source)
    (some (a0.Source != 0)) (some false)).bind fun g32 => some g32)).bind fun g33 => (cond g33 (some true) ((cond (!a0.Place.Based) (some (a0.Place.Pointer != 0))
    (some false)).bind fun g34 => some g34)).bind fun g35 => (cond g35 (some true) ((cond (!a0.From.Based) (some (a0.From.Pointer != 0)) (some false)).bind fun g36 =>
    some g36)).bind fun g37 => some g37
noncomputable def ref15_hasExtra.ct : Ct U := { params := [.val Ty.HwInstruction, .val Ty.ref15_fields], results := [Ty.bool], outs := [], fresh := [], fn := app U [Ty.HwInstruction, Ty.ref15_fields] (R := PT U [Ty.bool]) (ref15_hasExtra) }
noncomputable def ref15_hasExtra.cx : Ctx U := mkCx [] [] [] [] [] [] [] []
noncomputable def ref15_hasExtra.L : Nat → Option (Cut U (PT U [Ty.bool])) := pick []
theorem ref15_hasExtra.eq (a0 : HwInstruction) (a1 : ref15_fields) : runF (ref15_hasExtra.cx) Proofs.Tryz.f99 (ref15_hasExtra.ct) (ref15_hasExtra.L) [⟨Ty.HwInstruction, a0⟩, ⟨Ty.ref15_fields, a1⟩] = ref15_hasExtra a0 a1 := by kernel_rfl
theorem ref15_hasExtra.ok : ∀ y, finOk (ref15_hasExtra.cx) (ref15_hasExtra.ct) y = true := fun y => by kernel_rfl
theorem ref15_hasExtra.meets : Meets (ref15_hasExtra.cx) 99 (ref15_hasExtra.ct) :=
  meets_run (C := ref15_hasExtra.cx) (ct := ref15_hasExtra.ct) (Lp := ref15_hasExtra.L) claws (ook_of (l := []) rfl (all_nil)) (xok_of (l := []) rfl (all_nil)) Proofs.Tryz.func99 (by kernel_rfl) rfl (lok_of (l := []) rfl (all_nil)) (ref15_hasExtra.ok) (app_run (U := U) [Ty.HwInstruction, Ty.ref15_fields] (ref15_hasExtra) (runF (ref15_hasExtra.cx) Proofs.Tryz.f99 (ref15_hasExtra.ct) (ref15_hasExtra.L)) ref15_hasExtra.eq)

noncomputable def ref15_lacks (a0 : HwModel) (a1 : HwInstruction) : Option Bool :=
  (cond (a1.Op == 7) (some (!a0.Fused)) (some false)).bind fun g1 => (cond g1 (some true) ((cond a1.InStorage (some (!a0.Memory)) (some false)).bind fun g2 =>
    some g2)).bind fun g3 => some g3
noncomputable def ref15_lacks.ct : Ct U := { params := [.val Ty.HwModel, .val Ty.HwInstruction], results := [Ty.bool], outs := [], fresh := [], fn := app U [Ty.HwModel, Ty.HwInstruction] (R := PT U [Ty.bool]) (ref15_lacks) }
noncomputable def ref15_lacks.cx : Ctx U := mkCx [] [] [] [] [] [] [] []
noncomputable def ref15_lacks.L : Nat → Option (Cut U (PT U [Ty.bool])) := pick []
theorem ref15_lacks.eq (a0 : HwModel) (a1 : HwInstruction) : runF (ref15_lacks.cx) Proofs.Tryz.f67 (ref15_lacks.ct) (ref15_lacks.L) [⟨Ty.HwModel, a0⟩, ⟨Ty.HwInstruction, a1⟩] = ref15_lacks a0 a1 := by kernel_rfl
theorem ref15_lacks.ok : ∀ y, finOk (ref15_lacks.cx) (ref15_lacks.ct) y = true := fun y => by kernel_rfl
theorem ref15_lacks.meets : Meets (ref15_lacks.cx) 67 (ref15_lacks.ct) :=
  meets_run (C := ref15_lacks.cx) (ct := ref15_lacks.ct) (Lp := ref15_lacks.L) claws (ook_of (l := []) rfl (all_nil)) (xok_of (l := []) rfl (all_nil)) Proofs.Tryz.func67 (by kernel_rfl) rfl (lok_of (l := []) rfl (all_nil)) (ref15_lacks.ok) (app_run (U := U) [Ty.HwModel, Ty.HwInstruction] (ref15_lacks) (runF (ref15_lacks.cx) Proofs.Tryz.f67 (ref15_lacks.ct) (ref15_lacks.L)) ref15_lacks.eq)

noncomputable def ref01_IsNumeric (a0 : Int) : Option Bool :=
  (base_Within a0 1 3).bind fun r1 => some r1
noncomputable def ref01_IsNumeric.ct : Ct U := { params := [.val (Ty.int .i64)], results := [Ty.bool], outs := [], fresh := [], fn := app U [(Ty.int .i64)] (R := PT U [Ty.bool]) (ref01_IsNumeric) }
noncomputable def ref01_IsNumeric.cx : Ctx U := mkCx [(57, base_Within.ct)] [] [] [] [] [] [] []
noncomputable def ref01_IsNumeric.L : Nat → Option (Cut U (PT U [Ty.bool])) := pick []
theorem ref01_IsNumeric.eq (a0 : Int) : runF (ref01_IsNumeric.cx) Proofs.Tryz.f144 (ref01_IsNumeric.ct) (ref01_IsNumeric.L) [⟨(Ty.int .i64), a0⟩] = ref01_IsNumeric a0 := by kernel_rfl
theorem ref01_IsNumeric.ok : ∀ y, finOk (ref01_IsNumeric.cx) (ref01_IsNumeric.ct) y = true := fun y => by kernel_rfl
theorem ref01_IsNumeric.meets : Meets (ref01_IsNumeric.cx) 144 (ref01_IsNumeric.ct) :=
  meets_run (C := ref01_IsNumeric.cx) (ct := ref01_IsNumeric.ct) (Lp := ref01_IsNumeric.L) claws (ook_of (l := [(57, base_Within.ct)]) rfl (all_cons (Meets.ctx (C := base_Within.cx) (C' := ref01_IsNumeric.cx) rfl rfl rfl base_Within.meets) (all_nil))) (xok_of (l := []) rfl (all_nil)) Proofs.Tryz.func144 (by kernel_rfl) rfl (lok_of (l := []) rfl (all_nil)) (ref01_IsNumeric.ok) (app_run (U := U) [(Ty.int .i64)] (ref01_IsNumeric) (runF (ref01_IsNumeric.cx) Proofs.Tryz.f144 (ref01_IsNumeric.ct) (ref01_IsNumeric.L)) ref01_IsNumeric.eq)

noncomputable def base_Count (a0 : Bool) : Option Int :=
  cond a0 (some 1) (some 0)
noncomputable def base_Count.ct : Ct U := { params := [.val Ty.bool], results := [(Ty.int .i64)], outs := [], fresh := [], fn := app U [Ty.bool] (R := PT U [(Ty.int .i64)]) (base_Count) }
noncomputable def base_Count.cx : Ctx U := mkCx [] [] [] [] [] [] [] []
noncomputable def base_Count.L : Nat → Option (Cut U (PT U [(Ty.int .i64)])) := pick []
theorem base_Count.eq (a0 : Bool) : runF (base_Count.cx) Proofs.Tryz.f124 (base_Count.ct) (base_Count.L) [⟨Ty.bool, a0⟩] = base_Count a0 := by kernel_rfl
theorem base_Count.ok : ∀ y, finOk (base_Count.cx) (base_Count.ct) y = true := fun y => by kernel_rfl
theorem base_Count.meets : Meets (base_Count.cx) 124 (base_Count.ct) :=
  meets_run (C := base_Count.cx) (ct := base_Count.ct) (Lp := base_Count.L) claws (ook_of (l := []) rfl (all_nil)) (xok_of (l := []) rfl (all_nil)) Proofs.Tryz.func124 (by kernel_rfl) rfl (lok_of (l := []) rfl (all_nil)) (base_Count.ok) (app_run (U := U) [Ty.bool] (base_Count) (runF (base_Count.cx) Proofs.Tryz.f124 (base_Count.ct) (base_Count.L)) base_Count.eq)

noncomputable def ref01_TypeErr (a0 : DataType) : Option Int :=
  (base_Within a0.Kind 0 4).bind fun r1 => cond (!r1) (some 4) (cond (a0.Kind == 0) ((base_Within a0.Length 1 256).bind fun r2 => cond (!r2) (some 18)
    ((ref01_IsNumeric a0.Kind).bind fun r3 => cond r3 ((base_Within a0.Scale 0 a0.Length).bind fun r4 => (base_Count (!r4)).bind fun r5 => some (IntKind.wrap .i64 (3 * r5)))
    ((base_Within a0.Scale 0 0).bind fun r6 => (base_Count (!r6)).bind fun r7 => some (IntKind.wrap .i64 (3 * r7))))) ((cond (a0.Kind == 1) (some (a0.Kind == 1))
    (some (a0.Kind == 2))).bind fun q8 => cond q8 ((base_Within a0.Length 1 15).bind fun r9 => cond (!r9) (some 18) ((ref01_IsNumeric a0.Kind).bind fun r10 =>
    cond r10 ((base_Within a0.Scale 0 a0.Length).bind fun r11 => (base_Count (!r11)).bind fun r12 => some (IntKind.wrap .i64 (3 * r12))) ((base_Within a0.Scale 0 0).bind fun r13 =>
    (base_Count (!r13)).bind fun r14 => some (IntKind.wrap .i64 (3 * r14))))) (cond (a0.Kind == 3) ((cond (a0.Length == 4) (some true) (some (a0.Length == 9))).bind fun g15 =>
    cond (!g15) (some 18) ((ref01_IsNumeric a0.Kind).bind fun r16 => cond r16 ((base_Within a0.Scale 0 a0.Length).bind fun r17 => (base_Count (!r17)).bind fun r18 =>
    some (IntKind.wrap .i64 (3 * r18))) ((base_Within a0.Scale 0 0).bind fun r19 => (base_Count (!r19)).bind fun r20 => some (IntKind.wrap .i64 (3 * r20))))) (cond (!(a0.Length == 0))
    (some 18) ((ref01_IsNumeric a0.Kind).bind fun r21 => cond r21 ((base_Within a0.Scale 0 a0.Length).bind fun r22 => (base_Count (!r22)).bind fun r23 =>
    some (IntKind.wrap .i64 (3 * r23))) ((base_Within a0.Scale 0 0).bind fun r24 => (base_Count (!r24)).bind fun r25 => some (IntKind.wrap .i64 (3 * r25))))))))
noncomputable def ref01_TypeErr.ct : Ct U := { params := [.val Ty.DataType], results := [(Ty.int .i64)], outs := [], fresh := [], fn := app U [Ty.DataType] (R := PT U [(Ty.int .i64)]) (ref01_TypeErr) }
noncomputable def ref01_TypeErr.cx : Ctx U := mkCx [(57, base_Within.ct), (124, base_Count.ct), (144, ref01_IsNumeric.ct)] [] [] [] [] [] [] [19]
noncomputable def ref01_TypeErr.L : Nat → Option (Cut U (PT U [(Ty.int .i64)])) := pick []
theorem ref01_TypeErr.eq (a0 : DataType) : runF (ref01_TypeErr.cx) Proofs.Tryz.f143 (ref01_TypeErr.ct) (ref01_TypeErr.L) [⟨Ty.DataType, a0⟩] = ref01_TypeErr a0 := by kernel_rfl
theorem ref01_TypeErr.ok : ∀ y, finOk (ref01_TypeErr.cx) (ref01_TypeErr.ct) y = true := fun y => by kernel_rfl
theorem ref01_TypeErr.meets : Meets (ref01_TypeErr.cx) 143 (ref01_TypeErr.ct) :=
  meets_run (C := ref01_TypeErr.cx) (ct := ref01_TypeErr.ct) (Lp := ref01_TypeErr.L) claws (ook_of (l := [(57, base_Within.ct), (124, base_Count.ct), (144, ref01_IsNumeric.ct)]) rfl (all_cons (Meets.ctx (C := base_Within.cx) (C' := ref01_TypeErr.cx) rfl rfl rfl base_Within.meets) (all_cons (Meets.ctx (C := base_Count.cx) (C' := ref01_TypeErr.cx) rfl rfl rfl base_Count.meets) (all_cons (Meets.ctx (C := ref01_IsNumeric.cx) (C' := ref01_TypeErr.cx) rfl rfl rfl ref01_IsNumeric.meets) (all_nil))))) (xok_of (l := []) rfl (all_nil)) Proofs.Tryz.func143 (by kernel_rfl) rfl (lok_of (l := []) rfl (all_nil)) (ref01_TypeErr.ok) (app_run (U := U) [Ty.DataType] (ref01_TypeErr) (runF (ref01_TypeErr.cx) Proofs.Tryz.f143 (ref01_TypeErr.ct) (ref01_TypeErr.L)) ref01_TypeErr.eq)

noncomputable def ref15_typeErr (a0 : DataType) (a1 : Int) : Option Int :=
  cond (a1 == 0) (some 0) ((ref01_TypeErr (⟨a0.Kind, a0.Length, a0.Scale⟩ : DataType)).bind fun r1 => cond (r1 != 0) (some r1) ((cond (a1 == 1)
    ((ref01_IsNumeric a0.Kind).bind fun r2 => some (!r2)) (some false)).bind fun g3 => (cond g3 (some true) ((cond (a1 == 2) (some (a0.Kind != 0)) (some false)).bind fun g4 =>
    some g4)).bind fun g5 => (cond g5 (some true) ((cond (a1 == 3) (some (a0.Kind == 4)) (some false)).bind fun g6 => some g6)).bind fun g7 => cond g7 (some 17) (some 0)))
noncomputable def ref15_typeErr.ct : Ct U := { params := [.val Ty.DataType, .val (Ty.int .i64)], results := [(Ty.int .i64)], outs := [], fresh := [], fn := app U [Ty.DataType, (Ty.int .i64)] (R := PT U [(Ty.int .i64)]) (ref15_typeErr) }
noncomputable def ref15_typeErr.cx : Ctx U := mkCx [(143, ref01_TypeErr.ct), (144, ref01_IsNumeric.ct)] [] [] [] [] [] [] []
noncomputable def ref15_typeErr.L : Nat → Option (Cut U (PT U [(Ty.int .i64)])) := pick []
theorem ref15_typeErr.eq (a0 : DataType) (a1 : Int) : runF (ref15_typeErr.cx) Proofs.Tryz.f100 (ref15_typeErr.ct) (ref15_typeErr.L) [⟨Ty.DataType, a0⟩, ⟨(Ty.int .i64), a1⟩] = ref15_typeErr a0 a1 := by kernel_rfl
theorem ref15_typeErr.ok : ∀ y, finOk (ref15_typeErr.cx) (ref15_typeErr.ct) y = true := fun y => by kernel_rfl
theorem ref15_typeErr.meets : Meets (ref15_typeErr.cx) 100 (ref15_typeErr.ct) :=
  meets_run (C := ref15_typeErr.cx) (ct := ref15_typeErr.ct) (Lp := ref15_typeErr.L) claws (ook_of (l := [(143, ref01_TypeErr.ct), (144, ref01_IsNumeric.ct)]) rfl (all_cons (Meets.ctx (C := ref01_TypeErr.cx) (C' := ref15_typeErr.cx) rfl rfl rfl ref01_TypeErr.meets) (all_cons (Meets.ctx (C := ref01_IsNumeric.cx) (C' := ref15_typeErr.cx) rfl rfl rfl ref01_IsNumeric.meets) (all_nil)))) (xok_of (l := []) rfl (all_nil)) Proofs.Tryz.func100 (by kernel_rfl) rfl (lok_of (l := []) rfl (all_nil)) (ref15_typeErr.ok) (app_run (U := U) [Ty.DataType, (Ty.int .i64)] (ref15_typeErr) (runF (ref15_typeErr.cx) Proofs.Tryz.f100 (ref15_typeErr.ct) (ref15_typeErr.L)) ref15_typeErr.eq)

noncomputable def ref15_isRegister (a0 : HwModel) (a1 : Int) : Option Bool :=
  (base_Within a1 0 (IntKind.wrap .i64 (a0.Registers - 1))).bind fun r1 => some r1
noncomputable def ref15_isRegister.ct : Ct U := { params := [.val Ty.HwModel, .val (Ty.int .i64)], results := [Ty.bool], outs := [], fresh := [], fn := app U [Ty.HwModel, (Ty.int .i64)] (R := PT U [Ty.bool]) (ref15_isRegister) }
noncomputable def ref15_isRegister.cx : Ctx U := mkCx [(57, base_Within.ct)] [] [] [] [] [] [] []
noncomputable def ref15_isRegister.L : Nat → Option (Cut U (PT U [Ty.bool])) := pick []
theorem ref15_isRegister.eq (a0 : HwModel) (a1 : Int) : runF (ref15_isRegister.cx) Proofs.Tryz.f107 (ref15_isRegister.ct) (ref15_isRegister.L) [⟨Ty.HwModel, a0⟩, ⟨(Ty.int .i64), a1⟩] = ref15_isRegister a0 a1 := by kernel_rfl
theorem ref15_isRegister.ok : ∀ y, finOk (ref15_isRegister.cx) (ref15_isRegister.ct) y = true := fun y => by kernel_rfl
theorem ref15_isRegister.meets : Meets (ref15_isRegister.cx) 107 (ref15_isRegister.ct) :=
  meets_run (C := ref15_isRegister.cx) (ct := ref15_isRegister.ct) (Lp := ref15_isRegister.L) claws (ook_of (l := [(57, base_Within.ct)]) rfl (all_cons (Meets.ctx (C := base_Within.cx) (C' := ref15_isRegister.cx) rfl rfl rfl base_Within.meets) (all_nil))) (xok_of (l := []) rfl (all_nil)) Proofs.Tryz.func107 (by kernel_rfl) rfl (lok_of (l := []) rfl (all_nil)) (ref15_isRegister.ok) (app_run (U := U) [Ty.HwModel, (Ty.int .i64)] (ref15_isRegister) (runF (ref15_isRegister.cx) Proofs.Tryz.f107 (ref15_isRegister.ct) (ref15_isRegister.L)) ref15_isRegister.eq)

noncomputable def ref15_hasRegisters (a0 : HwModel) (a1 : HwInstruction) : Option Bool :=
  (ref15_used a1).bind fun r1 => (cond (!r1.R) (some true) ((ref15_isRegister a0 a1.R).bind fun r2 => some r2)).bind fun g3 => (cond g3 ((cond (!r1.A) (some true)
    ((ref15_isRegister a0 a1.A).bind fun r4 => some r4)).bind fun g5 => some g5) (some false)).bind fun g6 => (cond g6 ((cond (!r1.B) (some true)
    ((ref15_isRegister a0 a1.B).bind fun r7 => some r7)).bind fun g8 => some g8) (some false)).bind fun g9 => some g9
noncomputable def ref15_hasRegisters.ct : Ct U := { params := [.val Ty.HwModel, .val Ty.HwInstruction], results := [Ty.bool], outs := [], fresh := [], fn := app U [Ty.HwModel, Ty.HwInstruction] (R := PT U [Ty.bool]) (ref15_hasRegisters) }
noncomputable def ref15_hasRegisters.cx : Ctx U := mkCx [(98, ref15_used.ct), (107, ref15_isRegister.ct)] [] [] [] [] [] [] []
noncomputable def ref15_hasRegisters.L : Nat → Option (Cut U (PT U [Ty.bool])) := pick []
theorem ref15_hasRegisters.eq (a0 : HwModel) (a1 : HwInstruction) : runF (ref15_hasRegisters.cx) Proofs.Tryz.f68 (ref15_hasRegisters.ct) (ref15_hasRegisters.L) [⟨Ty.HwModel, a0⟩, ⟨Ty.HwInstruction, a1⟩] = ref15_hasRegisters a0 a1 := by kernel_rfl
theorem ref15_hasRegisters.ok : ∀ y, finOk (ref15_hasRegisters.cx) (ref15_hasRegisters.ct) y = true := fun y => by kernel_rfl
theorem ref15_hasRegisters.meets : Meets (ref15_hasRegisters.cx) 68 (ref15_hasRegisters.ct) :=
  meets_run (C := ref15_hasRegisters.cx) (ct := ref15_hasRegisters.ct) (Lp := ref15_hasRegisters.L) claws (ook_of (l := [(98, ref15_used.ct), (107, ref15_isRegister.ct)]) rfl (all_cons (Meets.ctx (C := ref15_used.cx) (C' := ref15_hasRegisters.cx) rfl rfl rfl ref15_used.meets) (all_cons (Meets.ctx (C := ref15_isRegister.cx) (C' := ref15_hasRegisters.cx) rfl rfl rfl ref15_isRegister.meets) (all_nil)))) (xok_of (l := []) rfl (all_nil)) Proofs.Tryz.func68 (by kernel_rfl) rfl (lok_of (l := []) rfl (all_nil)) (ref15_hasRegisters.ok) (app_run (U := U) [Ty.HwModel, Ty.HwInstruction] (ref15_hasRegisters) (runF (ref15_hasRegisters.cx) Proofs.Tryz.f68 (ref15_hasRegisters.ct) (ref15_hasRegisters.L)) ref15_hasRegisters.eq)

noncomputable def ref03_IsQuad (a0 : Storage) (a1 : Int) : Option Bool :=
  (base_Within a1 0 (IntKind.wrap .i64 ((a0.Bytes.size : Int) - 16))).bind fun r1 => (cond r1 (some ((a1.tmod 16) == 0)) (some false)).bind fun g2 => some g2
noncomputable def ref03_IsQuad.ct : Ct U := { params := [.val Ty.Storage, .val (Ty.int .i64)], results := [Ty.bool], outs := [], fresh := [], fn := app U [Ty.Storage, (Ty.int .i64)] (R := PT U [Ty.bool]) (ref03_IsQuad) }
noncomputable def ref03_IsQuad.cx : Ctx U := mkCx [(57, base_Within.ct)] [] [] [] [] [] [] []
noncomputable def ref03_IsQuad.L : Nat → Option (Cut U (PT U [Ty.bool])) := pick []
theorem ref03_IsQuad.eq (a0 : Storage) (a1 : Int) : runF (ref03_IsQuad.cx) Proofs.Tryz.f101 (ref03_IsQuad.ct) (ref03_IsQuad.L) [⟨Ty.Storage, a0⟩, ⟨(Ty.int .i64), a1⟩] = ref03_IsQuad a0 a1 := by kernel_rfl
theorem ref03_IsQuad.ok : ∀ y, finOk (ref03_IsQuad.cx) (ref03_IsQuad.ct) y = true := fun y => by kernel_rfl
theorem ref03_IsQuad.meets : Meets (ref03_IsQuad.cx) 101 (ref03_IsQuad.ct) :=
  meets_run (C := ref03_IsQuad.cx) (ct := ref03_IsQuad.ct) (Lp := ref03_IsQuad.L) claws (ook_of (l := [(57, base_Within.ct)]) rfl (all_cons (Meets.ctx (C := base_Within.cx) (C' := ref03_IsQuad.cx) rfl rfl rfl base_Within.meets) (all_nil))) (xok_of (l := []) rfl (all_nil)) Proofs.Tryz.func101 (by kernel_rfl) rfl (lok_of (l := []) rfl (all_nil)) (ref03_IsQuad.ok) (app_run (U := U) [Ty.Storage, (Ty.int .i64)] (ref03_IsQuad) (runF (ref03_IsQuad.cx) Proofs.Tryz.f101 (ref03_IsQuad.ct) (ref03_IsQuad.L)) ref03_IsQuad.eq)

noncomputable def base_Size (a0 : DataType) : Option Int :=
  cond (a0.Kind == 1) (some (IntKind.wrap .i64 ((IntKind.wrap .i64 (a0.Length.tdiv 2)) + 1))) (cond (a0.Kind == 3) ((base_Count (a0.Length == 9)).bind fun r1 =>
    some (IntKind.wrap .i64 (2 + (IntKind.wrap .i64 (2 * r1))))) (cond (a0.Kind == 4) (some 16) (some a0.Length)))
noncomputable def base_Size.ct : Ct U := { params := [.val Ty.DataType], results := [(Ty.int .i64)], outs := [], fresh := [], fn := app U [Ty.DataType] (R := PT U [(Ty.int .i64)]) (base_Size) }
noncomputable def base_Size.cx : Ctx U := mkCx [(124, base_Count.ct)] [] [] [] [] [] [] []
noncomputable def base_Size.L : Nat → Option (Cut U (PT U [(Ty.int .i64)])) := pick []
theorem base_Size.eq (a0 : DataType) : runF (base_Size.cx) Proofs.Tryz.f103 (base_Size.ct) (base_Size.L) [⟨Ty.DataType, a0⟩] = base_Size a0 := by kernel_rfl
theorem base_Size.ok : ∀ y, finOk (base_Size.cx) (base_Size.ct) y = true := fun y => by kernel_rfl
theorem base_Size.meets : Meets (base_Size.cx) 103 (base_Size.ct) :=
  meets_run (C := base_Size.cx) (ct := base_Size.ct) (Lp := base_Size.L) claws (ook_of (l := [(124, base_Count.ct)]) rfl (all_cons (Meets.ctx (C := base_Count.cx) (C' := base_Size.cx) rfl rfl rfl base_Count.meets) (all_nil))) (xok_of (l := []) rfl (all_nil)) Proofs.Tryz.func103 (by kernel_rfl) rfl (lok_of (l := []) rfl (all_nil)) (base_Size.ok) (app_run (U := U) [Ty.DataType] (base_Size) (runF (base_Size.cx) Proofs.Tryz.f103 (base_Size.ct) (base_Size.L)) base_Size.eq)

noncomputable def ref03_IsRange (a0 : Storage) (a1 : Int) (a2 : Int) : Option Bool :=
  (base_Within a1 0 (a0.Bytes.size : Int)).bind fun r1 => (cond r1 ((base_Within a2 0 (IntKind.wrap .i64 ((a0.Bytes.size : Int) - a1))).bind fun r2 => some r2)
    (some false)).bind fun g3 => some g3
noncomputable def ref03_IsRange.ct : Ct U := { params := [.val Ty.Storage, .val (Ty.int .i64), .val (Ty.int .i64)], results := [Ty.bool], outs := [], fresh := [], fn := app U [Ty.Storage, (Ty.int .i64), (Ty.int .i64)] (R := PT U [Ty.bool]) (ref03_IsRange) }
noncomputable def ref03_IsRange.cx : Ctx U := mkCx [(57, base_Within.ct)] [] [] [] [10] [] [] []
noncomputable def ref03_IsRange.L : Nat → Option (Cut U (PT U [Ty.bool])) := pick []
theorem ref03_IsRange.eq (a0 : Storage) (a1 : Int) (a2 : Int) : runF (ref03_IsRange.cx) Proofs.Tryz.f145 (ref03_IsRange.ct) (ref03_IsRange.L) [⟨Ty.Storage, a0⟩, ⟨(Ty.int .i64), a1⟩, ⟨(Ty.int .i64), a2⟩] = ref03_IsRange a0 a1 a2 := by kernel_rfl
theorem ref03_IsRange.ok : ∀ y, finOk (ref03_IsRange.cx) (ref03_IsRange.ct) y = true := fun y => by kernel_rfl
theorem ref03_IsRange.meets : Meets (ref03_IsRange.cx) 145 (ref03_IsRange.ct) :=
  meets_run (C := ref03_IsRange.cx) (ct := ref03_IsRange.ct) (Lp := ref03_IsRange.L) claws (ook_of (l := [(57, base_Within.ct)]) rfl (all_cons (Meets.ctx (C := base_Within.cx) (C' := ref03_IsRange.cx) rfl rfl rfl base_Within.meets) (all_nil))) (xok_of (l := []) rfl (all_nil)) Proofs.Tryz.func145 (by kernel_rfl) rfl (lok_of (l := []) rfl (all_nil)) (ref03_IsRange.ok) (app_run (U := U) [Ty.Storage, (Ty.int .i64), (Ty.int .i64)] (ref03_IsRange) (runF (ref03_IsRange.cx) Proofs.Tryz.f145 (ref03_IsRange.ct) (ref03_IsRange.L)) ref03_IsRange.eq)

noncomputable def ref15_isPlace (a0 : HwCode) (a1 : HwPlace) (a2 : Int) : Option Bool :=
  cond a1.Based ((ref03_IsQuad a0.Storage a1.Pointer).bind fun r1 => (cond r1 ((base_Within a1.Offset 0 256).bind fun r2 => some r2) (some false)).bind fun g3 => some g3)
    ((ref03_IsRange (⟨a0.Storage.Bytes, a0.Storage.Tags⟩ : Storage) a1.Offset a2).bind fun r4 => some r4)
noncomputable def ref15_isPlace.ct : Ct U := { params := [.val Ty.HwCode, .val Ty.HwPlace, .val (Ty.int .i64)], results := [Ty.bool], outs := [], fresh := [], fn := app U [Ty.HwCode, Ty.HwPlace, (Ty.int .i64)] (R := PT U [Ty.bool]) (ref15_isPlace) }
noncomputable def ref15_isPlace.cx : Ctx U := mkCx [(57, base_Within.ct), (101, ref03_IsQuad.ct), (145, ref03_IsRange.ct)] [] [] [] [] [] [] []
noncomputable def ref15_isPlace.L : Nat → Option (Cut U (PT U [Ty.bool])) := pick []
theorem ref15_isPlace.eq (a0 : HwCode) (a1 : HwPlace) (a2 : Int) : runF (ref15_isPlace.cx) Proofs.Tryz.f102 (ref15_isPlace.ct) (ref15_isPlace.L) [⟨Ty.HwCode, a0⟩, ⟨Ty.HwPlace, a1⟩, ⟨(Ty.int .i64), a2⟩] = ref15_isPlace a0 a1 a2 := by kernel_rfl
theorem ref15_isPlace.ok : ∀ y, finOk (ref15_isPlace.cx) (ref15_isPlace.ct) y = true := fun y => by kernel_rfl
theorem ref15_isPlace.meets : Meets (ref15_isPlace.cx) 102 (ref15_isPlace.ct) :=
  meets_run (C := ref15_isPlace.cx) (ct := ref15_isPlace.ct) (Lp := ref15_isPlace.L) claws (ook_of (l := [(57, base_Within.ct), (101, ref03_IsQuad.ct), (145, ref03_IsRange.ct)]) rfl (all_cons (Meets.ctx (C := base_Within.cx) (C' := ref15_isPlace.cx) rfl rfl rfl base_Within.meets) (all_cons (Meets.ctx (C := ref03_IsQuad.cx) (C' := ref15_isPlace.cx) rfl rfl rfl ref03_IsQuad.meets) (all_cons (Meets.ctx (C := ref03_IsRange.cx) (C' := ref15_isPlace.cx) rfl rfl rfl ref03_IsRange.meets) (all_nil))))) (xok_of (l := []) rfl (all_nil)) Proofs.Tryz.func102 (by kernel_rfl) rfl (lok_of (l := []) rfl (all_nil)) (ref15_isPlace.ok) (app_run (U := U) [Ty.HwCode, Ty.HwPlace, (Ty.int .i64)] (ref15_isPlace) (runF (ref15_isPlace.cx) Proofs.Tryz.f102 (ref15_isPlace.ct) (ref15_isPlace.L)) ref15_isPlace.eq)

noncomputable def ref01_NumberErr (a0 : Number) : Option Int :=
  (base_Within a0.N (-999999999999999) 999999999999999).bind fun r1 => (cond r1 ((base_Within a0.Scale 0 15).bind fun r2 => some r2) (some false)).bind fun g3 =>
    (base_Count (!g3)).bind fun r4 => some (IntKind.wrap .i64 (3 * r4))
noncomputable def ref01_NumberErr.ct : Ct U := { params := [.val Ty.Number], results := [(Ty.int .i64)], outs := [], fresh := [], fn := app U [Ty.Number] (R := PT U [(Ty.int .i64)]) (ref01_NumberErr) }
noncomputable def ref01_NumberErr.cx : Ctx U := mkCx [(57, base_Within.ct), (124, base_Count.ct)] [] [] [] [] [] [] []
noncomputable def ref01_NumberErr.L : Nat → Option (Cut U (PT U [(Ty.int .i64)])) := pick []
theorem ref01_NumberErr.eq (a0 : Number) : runF (ref01_NumberErr.cx) Proofs.Tryz.f84 (ref01_NumberErr.ct) (ref01_NumberErr.L) [⟨Ty.Number, a0⟩] = ref01_NumberErr a0 := by kernel_rfl
theorem ref01_NumberErr.ok : ∀ y, finOk (ref01_NumberErr.cx) (ref01_NumberErr.ct) y = true := fun y => by kernel_rfl
theorem ref01_NumberErr.meets : Meets (ref01_NumberErr.cx) 84 (ref01_NumberErr.ct) :=
  meets_run (C := ref01_NumberErr.cx) (ct := ref01_NumberErr.ct) (Lp := ref01_NumberErr.L) claws (ook_of (l := [(57, base_Within.ct), (124, base_Count.ct)]) rfl (all_cons (Meets.ctx (C := base_Within.cx) (C' := ref01_NumberErr.cx) rfl rfl rfl base_Within.meets) (all_cons (Meets.ctx (C := base_Count.cx) (C' := ref01_NumberErr.cx) rfl rfl rfl base_Count.meets) (all_nil)))) (xok_of (l := []) rfl (all_nil)) Proofs.Tryz.func84 (by kernel_rfl) rfl (lok_of (l := []) rfl (all_nil)) (ref01_NumberErr.ok) (app_run (U := U) [Ty.Number] (ref01_NumberErr) (runF (ref01_NumberErr.cx) Proofs.Tryz.f84 (ref01_NumberErr.ct) (ref01_NumberErr.L)) ref01_NumberErr.eq)

noncomputable def ref15_instructionErr (a0 : HwModel) (a1 : HwCode) (a2 : HwInstruction) : Option Int :=
  (base_Within a2.Op 0 26).bind fun r1 => cond (!r1) (some 4) ((ref15_used a2).bind fun r2 => (ref15_hasExtra a2 r2).bind fun r3 => cond r3 (some 5)
    ((ref15_lacks a0 a2).bind fun r4 => cond r4 (some 39) ((ref15_typeErr a2.Type_ r2.Type_).bind fun r5 => cond (r5 != 0) (some r5)
    ((ref15_typeErr a2.Second r2.Second).bind fun r6 => cond (r6 != 0) (some r6) (cond (a2.Op == 4) (((ref15_hasRegisters a0 a2).bind fun r7 => cond (!r7) (some (!r7))
    ((cond r2.Target ((base_Within a2.Target 0 (IntKind.wrap .i64 ((a1.Instructions.length : Int) - 1))).bind fun r8 => some (!r8)) (some false)).bind fun g9 => cond g9 (some g9)
    ((cond r2.Mask ((base_Within a2.Mask 1 7).bind fun r10 => some (!r10)) (some false)).bind fun g11 => some g11))).bind fun q12 => cond q12 (some 3)
    (((cond r2.Pointer ((ref03_IsQuad (⟨a1.Storage.Bytes, a1.Storage.Tags⟩ : Storage) a2.Pointer).bind fun r13 => some (!r13)) (some false)).bind fun g14 => cond g14 (some g14)
    ((cond r2.Source ((ref03_IsQuad (⟨a1.Storage.Bytes, a1.Storage.Tags⟩ : Storage) a2.Source).bind fun r15 => some (!r15)) (some false)).bind fun g16 => some g16)).bind fun q17 =>
    cond q17 (some 3) ((cond r2.Place ((base_Size a2.Second).bind fun r18 => (ref15_isPlace (⟨(⟨a1.Storage.Bytes, a1.Storage.Tags⟩ : Storage), a1.Instructions, a1.Traps⟩ : HwCode)
    (⟨a2.Place.Based, a2.Place.Pointer, a2.Place.Offset⟩ : HwPlace) r18).bind fun r19 => some (!r19)) (some false)).bind fun g20 => cond g20 (cond g20 (some 3)
    ((cond r2.Calculation ((base_Within a2.Calculation 0 4).bind fun r21 => some (!r21)) (some false)).bind fun g22 => cond g22 (some 3)
    ((ref01_NumberErr (⟨a2.Number.N, a2.Number.Scale⟩ : Number)).bind fun r23 => (cond r2.Number (some (r23 != 0)) (some false)).bind fun g24 => cond g24 (some r23)
    ((cond (decide ((a2.Text.size : Int) > 256)) (some true) (some (decide ((a2.Other.size : Int) > 256)))).bind fun g25 => cond g25 (some 2) (some 0)))))
    ((cond r2.From ((base_Size (⟨a2.Second.Kind, a2.Second.Length, a2.Second.Scale⟩ : DataType)).bind fun r26 =>
    (ref15_isPlace (⟨(⟨a1.Storage.Bytes, a1.Storage.Tags⟩ : Storage), a1.Instructions, a1.Traps⟩ : HwCode)
    (⟨a2.From.Based, a2.From.Pointer, a2.From.Offset⟩ : HwPlace) r26).bind fun r27 => some (!r27)) (some false)).bind fun g28 => cond g28 (some 3)
    ((cond r2.Calculation ((base_Within a2.Calculation 0 4).bind fun r29 => some (!r29)) (some false)).bind fun g30 => cond g30 (some 3)
    ((ref01_NumberErr (⟨a2.Number.N, a2.Number.Scale⟩ : Number)).bind fun r31 => (cond r2.Number (some (r31 != 0)) (some false)).bind fun g32 => cond g32 (some r31)
    ((cond (decide ((a2.Text.size : Int) > 256)) (some true) (some (decide ((a2.Other.size : Int) > 256)))).bind fun g33 => cond g33 (some 2) (some 0))))))))
    (((ref15_hasRegisters (⟨a0.Registers, a0.Fused, a0.Memory⟩ : HwModel)
    (⟨a2.Op, a2.R, a2.A, a2.B, a2.Calculation, (⟨a2.Place.Based, a2.Place.Pointer, a2.Place.Offset⟩ : HwPlace), (⟨a2.From.Based, a2.From.Pointer, a2.From.Offset⟩ : HwPlace), (⟨a2.Type_.Kind, a2.Type_.Length, a2.Type_.Scale⟩ : DataType), (⟨a2.Second.Kind, a2.Second.Length, a2.Second.Scale⟩ : DataType), a2.Half, a2.InStorage, (⟨a2.Number.N, a2.Number.Scale⟩ : Number), a2.Text, a2.Other, a2.Mask, a2.Target, a2.Pointer, a2.Source⟩ : HwInstruction)).bind fun r34 =>
    cond (!r34) (some (!r34)) ((cond r2.Target ((base_Within a2.Target 0 (IntKind.wrap .i64 ((a1.Instructions.length : Int) - 1))).bind fun r35 => some (!r35))
    (some false)).bind fun g36 => cond g36 (some g36) ((cond r2.Mask ((base_Within a2.Mask 1 7).bind fun r37 => some (!r37)) (some false)).bind fun g38 => some g38))).bind fun q39 =>
    cond q39 (some 3) (((cond r2.Pointer ((ref03_IsQuad (⟨a1.Storage.Bytes, a1.Storage.Tags⟩ : Storage) a2.Pointer).bind fun r40 => some (!r40)) (some false)).bind fun g41 =>
    cond g41 (some g41) ((cond r2.Source ((ref03_IsQuad (⟨a1.Storage.Bytes, a1.Storage.Tags⟩ : Storage) a2.Source).bind fun r42 => some (!r42)) (some false)).bind fun g43 =>
    some g43)).bind fun q44 => cond q44 (some 3) ((cond r2.Place ((base_Size (⟨a2.Type_.Kind, a2.Type_.Length, a2.Type_.Scale⟩ : DataType)).bind fun r45 =>
    (ref15_isPlace (⟨(⟨a1.Storage.Bytes, a1.Storage.Tags⟩ : Storage), a1.Instructions, a1.Traps⟩ : HwCode)
    (⟨a2.Place.Based, a2.Place.Pointer, a2.Place.Offset⟩ : HwPlace) r45).bind fun r46 => some (!r46)) (some false)).bind fun g47 => cond g47 (cond g47 (some 3)
    ((cond r2.Calculation ((base_Within a2.Calculation 0 4).bind fun r48 => some (!r48)) (some false)).bind fun g49 => cond g49 (some 3)
    ((ref01_NumberErr (⟨a2.Number.N, a2.Number.Scale⟩ : Number)).bind fun r50 => (cond r2.Number (some (r50 != 0)) (some false)).bind fun g51 => cond g51 (some r50)
    ((cond (decide ((a2.Text.size : Int) > 256)) (some true) (some (decide ((a2.Other.size : Int) > 256)))).bind fun g52 => cond g52 (some 2) (some 0)))))
    ((cond r2.From ((base_Size (⟨a2.Second.Kind, a2.Second.Length, a2.Second.Scale⟩ : DataType)).bind fun r53 =>
    (ref15_isPlace (⟨(⟨a1.Storage.Bytes, a1.Storage.Tags⟩ : Storage), a1.Instructions, a1.Traps⟩ : HwCode)
    (⟨a2.From.Based, a2.From.Pointer, a2.From.Offset⟩ : HwPlace) r53).bind fun r54 => some (!r54)) (some false)).bind fun g55 => cond g55 (some 3)
    ((cond r2.Calculation ((base_Within a2.Calculation 0 4).bind fun r56 => some (!r56)) (some false)).bind fun g57 => cond g57 (some 3)
    ((ref01_NumberErr (⟨a2.Number.N, a2.Number.Scale⟩ : Number)).bind fun r58 => (cond r2.Number (some (r58 != 0)) (some false)).bind fun g59 => cond g59 (some r58)
    ((cond (decide ((a2.Text.size : Int) > 256)) (some true) (some (decide ((a2.Other.size : Int) > 256)))).bind fun g60 => cond g60 (some 2) (some 0)))))))))))))
noncomputable def ref15_instructionErr.ct : Ct U := { params := [.val Ty.HwModel, .val Ty.HwCode, .val Ty.HwInstruction], results := [(Ty.int .i64)], outs := [], fresh := [], fn := app U [Ty.HwModel, Ty.HwCode, Ty.HwInstruction] (R := PT U [(Ty.int .i64)]) (ref15_instructionErr) }
noncomputable def ref15_instructionErr.cx : Ctx U := mkCx [(57, base_Within.ct), (67, ref15_lacks.ct), (68, ref15_hasRegisters.ct), (84, ref01_NumberErr.ct), (98, ref15_used.ct), (99, ref15_hasExtra.ct), (100, ref15_typeErr.ct), (101, ref03_IsQuad.ct), (102, ref15_isPlace.ct), (103, base_Size.ct)] [] [] [] [101, 113] [] [] [47, 72]
noncomputable def ref15_instructionErr.L : Nat → Option (Cut U (PT U [(Ty.int .i64)])) := pick []
theorem ref15_instructionErr.eq (a0 : HwModel) (a1 : HwCode) (a2 : HwInstruction) : runF (ref15_instructionErr.cx) Proofs.Tryz.f56 (ref15_instructionErr.ct) (ref15_instructionErr.L) [⟨Ty.HwModel, a0⟩, ⟨Ty.HwCode, a1⟩, ⟨Ty.HwInstruction, a2⟩] = ref15_instructionErr a0 a1 a2 := by kernel_rfl
theorem ref15_instructionErr.ok : ∀ y, finOk (ref15_instructionErr.cx) (ref15_instructionErr.ct) y = true := fun y => by kernel_rfl
theorem ref15_instructionErr.meets : Meets (ref15_instructionErr.cx) 56 (ref15_instructionErr.ct) :=
  meets_run (C := ref15_instructionErr.cx) (ct := ref15_instructionErr.ct) (Lp := ref15_instructionErr.L) claws (ook_of (l := [(57, base_Within.ct), (67, ref15_lacks.ct), (68, ref15_hasRegisters.ct), (84, ref01_NumberErr.ct), (98, ref15_used.ct), (99, ref15_hasExtra.ct), (100, ref15_typeErr.ct), (101, ref03_IsQuad.ct), (102, ref15_isPlace.ct), (103, base_Size.ct)]) rfl (all_cons (Meets.ctx (C := base_Within.cx) (C' := ref15_instructionErr.cx) rfl rfl rfl base_Within.meets) (all_cons (Meets.ctx (C := ref15_lacks.cx) (C' := ref15_instructionErr.cx) rfl rfl rfl ref15_lacks.meets) (all_cons (Meets.ctx (C := ref15_hasRegisters.cx) (C' := ref15_instructionErr.cx) rfl rfl rfl ref15_hasRegisters.meets) (all_cons (Meets.ctx (C := ref01_NumberErr.cx) (C' := ref15_instructionErr.cx) rfl rfl rfl ref01_NumberErr.meets) (all_cons (Meets.ctx (C := ref15_used.cx) (C' := ref15_instructionErr.cx) rfl rfl rfl ref15_used.meets) (all_cons (Meets.ctx (C := ref15_hasExtra.cx) (C' := ref15_instructionErr.cx) rfl rfl rfl ref15_hasExtra.meets) (all_cons (Meets.ctx (C := ref15_typeErr.cx) (C' := ref15_instructionErr.cx) rfl rfl rfl ref15_typeErr.meets) (all_cons (Meets.ctx (C := ref03_IsQuad.cx) (C' := ref15_instructionErr.cx) rfl rfl rfl ref03_IsQuad.meets) (all_cons (Meets.ctx (C := ref15_isPlace.cx) (C' := ref15_instructionErr.cx) rfl rfl rfl ref15_isPlace.meets) (all_cons (Meets.ctx (C := base_Size.cx) (C' := ref15_instructionErr.cx) rfl rfl rfl base_Size.meets) (all_nil)))))))))))) (xok_of (l := []) rfl (all_nil)) Proofs.Tryz.func56 (by kernel_rfl) rfl (lok_of (l := []) rfl (all_nil)) (ref15_instructionErr.ok) (app_run (U := U) [Ty.HwModel, Ty.HwCode, Ty.HwInstruction] (ref15_instructionErr) (runF (ref15_instructionErr.cx) Proofs.Tryz.f56 (ref15_instructionErr.ct) (ref15_instructionErr.L)) ref15_instructionErr.eq)

noncomputable def ref15_CheckCode.sp1 : Amx.Spec U := { slots := [(2, .ptr 2 0), (3, .ptr 3 0), (8, .val (Ty.int .i64))], boxes := [(2, Ty.HwModel, []), (3, Ty.HwCode, [])] }
noncomputable def ref15_CheckCode.b1 (N : Nat) (s8 : Int) (b2 : HwModel) (b3 : HwCode) : Option (Round (Int × Int) (Int × HwModel × HwCode)) :=
  cond (decide (s8 < (b3.Instructions.length : Int))) ((idx b3.Instructions s8).bind fun x2001 => (ref15_instructionErr b2 b3 x2001).bind fun r2002 => cond (r2002 != 0)
    (some (.result (s8, r2002))) (some (.again ((IntKind.wrap .i64 (s8 + 1)), b2, b3)))) (some (.leave (s8, b2, b3)))
noncomputable def ref15_CheckCode.r1 (N : Nat) (x : Int × HwModel × HwCode) : Option (Round (Int × Int) (Int × HwModel × HwCode)) := ref15_CheckCode.b1 N x.1 x.2.1 x.2.2
noncomputable def ref15_CheckCode.sp3 : Amx.Spec U := { slots := [(3, .ptr 3 0), (10, .val (Ty.int .i64))], boxes := [(3, Ty.HwCode, [])] }
noncomputable def ref15_CheckCode.b3 (N : Nat) (s10 : Int) (b3 : HwCode) : Option (Round (Int × Int) (Int × HwCode)) :=
  cond (decide (s10 < (b3.Traps.length : Int))) ((idx b3.Traps s10).bind fun x4001 => (cond (decide (x4001.From < 0)) (some true)
    (some (decide (x4001.From > x4001.To)))).bind fun g4002 => (cond g4002 (some true) (some (decide (x4001.To > (b3.Instructions.length : Int))))).bind fun g4003 =>
    (cond g4003 (some true) ((base_Within x4001.Exception 0 999).bind fun r4004 => some (!r4004))).bind fun g4005 => (cond g4005 (some true)
    ((base_Within x4001.Handler 0 (IntKind.wrap .i64 ((b3.Instructions.length : Int) - 1))).bind fun r4006 => some (!r4006))).bind fun g4007 => cond g4007 (some (.result (s10, 3)))
    (some (.again ((IntKind.wrap .i64 (s10 + 1)), b3)))) (some (.leave (s10, b3)))
noncomputable def ref15_CheckCode.r3 (N : Nat) (x : Int × HwCode) : Option (Round (Int × Int) (Int × HwCode)) := ref15_CheckCode.b3 N x.1 x.2
noncomputable def ref15_CheckCode (N : Nat) (a0 : HwModel) (a1 : HwCode) : Option (Int × Int) :=
  (ref15_ModelErr a0).bind fun r1 => cond (r1 != 0) (some (0, r1)) ((ref03_Err N (⟨a1.Storage.Bytes, a1.Storage.Tags⟩ : Storage)).bind fun r2 => cond (r2 != 0) (some (0, r2))
    ((ref03_Pointers N (⟨a1.Storage.Bytes, a1.Storage.Tags⟩ : Storage)).bind fun r3 => cond (decide ((r3.length : Int) > 0)) (some (0, 22)) (cond ((a1.Instructions.length : Int) == 0)
    (some (0, 1)) ((cond (decide ((a1.Instructions.length : Int) > 240)) (some true) (some (decide ((a1.Traps.length : Int) > 40)))).bind fun g4 => cond g4 (some (0, 2))
    ((iterR (ref15_CheckCode.r1 N) N (0, (⟨a0.Registers, a0.Fused, a0.Memory⟩ : HwModel), (⟨(⟨a1.Storage.Bytes, a1.Storage.Tags⟩ : Storage), a1.Instructions, a1.Traps⟩ : HwCode))).bind fun z6 =>
    resR z6 (fun z => some z) (fun y5 => (iterR (ref15_CheckCode.r3 N) N (0, y5.2.2)).bind fun z8 => resR z8 (fun z => some z) (fun y7 =>
    some ((y7.2.Instructions.length : Int), 0))))))))
noncomputable def ref15_CheckCode.ct (N : Nat) : Ct U := { params := [.val Ty.HwModel, .val Ty.HwCode], results := [(Ty.int .i64), (Ty.int .i64)], outs := [], fresh := [], fn := app U [Ty.HwModel, Ty.HwCode] (R := PT U [(Ty.int .i64), (Ty.int .i64)]) (ref15_CheckCode N) }
noncomputable def ref15_CheckCode.cx (N : Nat) : Ctx U := mkCx [(18, ref15_ModelErr.ct), (54, ref03_Err.ct N), (55, ref03_Pointers.ct N), (56, ref15_instructionErr.ct), (57, base_Within.ct)] [] [] [] [26] [] [] []
noncomputable def ref15_CheckCode.L (N : Nat) : Nat → Option (Cut U (PT U [(Ty.int .i64), (Ty.int .i64)])) := pick [(1, .rets ref15_CheckCode.sp1 [(Ty.int .i64), Ty.HwModel, Ty.HwCode] (iterR (ref15_CheckCode.r1 N) N)), (3, .rets ref15_CheckCode.sp3 [(Ty.int .i64), Ty.HwCode] (iterR (ref15_CheckCode.r3 N) N))]
theorem ref15_CheckCode.r1_eq (N : Nat) (x : PT U [(Ty.int .i64), Ty.HwModel, Ty.HwCode]) : roundRF (ref15_CheckCode.cx N) Proofs.Tryz.f16 (ref15_CheckCode.ct N) (ref15_CheckCode.L N) ref15_CheckCode.sp1 [(Ty.int .i64), Ty.HwModel, Ty.HwCode] 1 x = ref15_CheckCode.r1 N x := by kernel_rfl
theorem ref15_CheckCode.r3_eq (N : Nat) (x : PT U [(Ty.int .i64), Ty.HwCode]) : roundRF (ref15_CheckCode.cx N) Proofs.Tryz.f16 (ref15_CheckCode.ct N) (ref15_CheckCode.L N) ref15_CheckCode.sp3 [(Ty.int .i64), Ty.HwCode] 3 x = ref15_CheckCode.r3 N x := by kernel_rfl
theorem ref15_CheckCode.eq (N : Nat) (a0 : HwModel) (a1 : HwCode) : runF (ref15_CheckCode.cx N) Proofs.Tryz.f16 (ref15_CheckCode.ct N) (ref15_CheckCode.L N) [⟨Ty.HwModel, a0⟩, ⟨Ty.HwCode, a1⟩] = ref15_CheckCode N a0 a1 := by kernel_rfl
theorem ref15_CheckCode.ok (N : Nat) : ∀ y, finOk (ref15_CheckCode.cx N) (ref15_CheckCode.ct N) y = true := fun y => by kernel_rfl
theorem ref15_CheckCode.meets (N : Nat) : Meets (ref15_CheckCode.cx N) 16 (ref15_CheckCode.ct N) :=
  meets_run (C := ref15_CheckCode.cx N) (ct := ref15_CheckCode.ct N) (Lp := ref15_CheckCode.L N) claws (ook_of (l := [(18, ref15_ModelErr.ct), (54, ref03_Err.ct N), (55, ref03_Pointers.ct N), (56, ref15_instructionErr.ct), (57, base_Within.ct)]) rfl (all_cons (Meets.ctx (C := ref15_ModelErr.cx) (C' := ref15_CheckCode.cx N) rfl rfl rfl ref15_ModelErr.meets) (all_cons (Meets.ctx (C := ref03_Err.cx N) (C' := ref15_CheckCode.cx N) rfl rfl rfl (ref03_Err.meets N)) (all_cons (Meets.ctx (C := ref03_Pointers.cx N) (C' := ref15_CheckCode.cx N) rfl rfl rfl (ref03_Pointers.meets N)) (all_cons (Meets.ctx (C := ref15_instructionErr.cx) (C' := ref15_CheckCode.cx N) rfl rfl rfl ref15_instructionErr.meets) (all_cons (Meets.ctx (C := base_Within.cx) (C' := ref15_CheckCode.cx N) rfl rfl rfl base_Within.meets) (all_nil))))))) (xok_of (l := []) rfl (all_nil)) Proofs.Tryz.func16 (by kernel_rfl) rfl (lok_of (l := [(1, .rets ref15_CheckCode.sp1 [(Ty.int .i64), Ty.HwModel, Ty.HwCode] (iterR (ref15_CheckCode.r1 N) N)), (3, .rets ref15_CheckCode.sp3 [(Ty.int .i64), Ty.HwCode] (iterR (ref15_CheckCode.r3 N) N))]) rfl (all_cons (lok_rets (ref15_CheckCode.r1_eq N)) (all_cons (lok_rets (ref15_CheckCode.r3_eq N)) (all_nil)))) (ref15_CheckCode.ok N) (app_run (U := U) [Ty.HwModel, Ty.HwCode] (ref15_CheckCode N) (runF (ref15_CheckCode.cx N) Proofs.Tryz.f16 (ref15_CheckCode.ct N) (ref15_CheckCode.L N)) (ref15_CheckCode.eq N))

noncomputable def ref15_CodeErr (N : Nat) (a0 : HwModel) (a1 : HwCode) : Option Int :=
  (ref15_CheckCode N (⟨a0.Registers, a0.Fused, a0.Memory⟩ : HwModel) (⟨(⟨a1.Storage.Bytes, a1.Storage.Tags⟩ : Storage), a1.Instructions, a1.Traps⟩ : HwCode)).bind fun r1 => some r1.2
noncomputable def ref15_CodeErr.ct (N : Nat) : Ct U := { params := [.val Ty.HwModel, .val Ty.HwCode], results := [(Ty.int .i64)], outs := [], fresh := [], fn := app U [Ty.HwModel, Ty.HwCode] (R := PT U [(Ty.int .i64)]) (ref15_CodeErr N) }
noncomputable def ref15_CodeErr.cx (N : Nat) : Ctx U := mkCx [(16, ref15_CheckCode.ct N)] [] [] [] [] [] [] []
noncomputable def ref15_CodeErr.L (N : Nat) : Nat → Option (Cut U (PT U [(Ty.int .i64)])) := pick []
theorem ref15_CodeErr.eq (N : Nat) (a0 : HwModel) (a1 : HwCode) : runF (ref15_CodeErr.cx N) Proofs.Tryz.f20 (ref15_CodeErr.ct N) (ref15_CodeErr.L N) [⟨Ty.HwModel, a0⟩, ⟨Ty.HwCode, a1⟩] = ref15_CodeErr N a0 a1 := by kernel_rfl
theorem ref15_CodeErr.ok (N : Nat) : ∀ y, finOk (ref15_CodeErr.cx N) (ref15_CodeErr.ct N) y = true := fun y => by kernel_rfl
theorem ref15_CodeErr.meets (N : Nat) : Meets (ref15_CodeErr.cx N) 20 (ref15_CodeErr.ct N) :=
  meets_run (C := ref15_CodeErr.cx N) (ct := ref15_CodeErr.ct N) (Lp := ref15_CodeErr.L N) claws (ook_of (l := [(16, ref15_CheckCode.ct N)]) rfl (all_cons (Meets.ctx (C := ref15_CheckCode.cx N) (C' := ref15_CodeErr.cx N) rfl rfl rfl (ref15_CheckCode.meets N)) (all_nil))) (xok_of (l := []) rfl (all_nil)) Proofs.Tryz.func20 (by kernel_rfl) rfl (lok_of (l := []) rfl (all_nil)) (ref15_CodeErr.ok N) (app_run (U := U) [Ty.HwModel, Ty.HwCode] (ref15_CodeErr N) (runF (ref15_CodeErr.cx N) Proofs.Tryz.f20 (ref15_CodeErr.ct N) (ref15_CodeErr.L N)) (ref15_CodeErr.eq N))

noncomputable def ref15_RunsOn.sp0 : Amx.Spec U := { slots := [(2, .ptr 2 0), (3, .ptr 3 0), (5, .val (Ty.int .i64))], boxes := [(2, Ty.HwModel, []), (3, Ty.HwCode, [])] }
noncomputable def ref15_RunsOn.b0 (N : Nat) (s5 : Int) (b2 : HwModel) (b3 : HwCode) : Option (Round Int (Int × HwModel × HwCode)) :=
  cond (decide (s5 < (b3.Instructions.length : Int))) ((idx b3.Instructions s5).bind fun x1001 => (ref15_lacks b2 x1001).bind fun r1002 => (cond r1002 (some true)
    ((ref15_hasRegisters b2 x1001).bind fun r1003 => some (!r1003))).bind fun g1004 => cond g1004 (some (.result s5)) (some (.again ((IntKind.wrap .i64 (s5 + 1)), b2, b3))))
    (some (.leave (s5, b2, b3)))
noncomputable def ref15_RunsOn.r0 (N : Nat) (x : Int × HwModel × HwCode) : Option (Round Int (Int × HwModel × HwCode)) := ref15_RunsOn.b0 N x.1 x.2.1 x.2.2
noncomputable def ref15_RunsOn (N : Nat) (a0 : HwModel) (a1 : HwCode) : Option Int :=
  (iterR (ref15_RunsOn.r0 N) N (0, a0, a1)).bind fun z2 => resR z2 (fun z => some z) (fun y1 => some (y1.2.2.Instructions.length : Int))
noncomputable def ref15_RunsOn.ct (N : Nat) : Ct U := { params := [.val Ty.HwModel, .val Ty.HwCode], results := [(Ty.int .i64)], outs := [], fresh := [], fn := app U [Ty.HwModel, Ty.HwCode] (R := PT U [(Ty.int .i64)]) (ref15_RunsOn N) }
noncomputable def ref15_RunsOn.cx (N : Nat) : Ctx U := mkCx [(67, ref15_lacks.ct), (68, ref15_hasRegisters.ct)] [] [] [] [] [] [] []
noncomputable def ref15_RunsOn.L (N : Nat) : Nat → Option (Cut U (PT U [(Ty.int .i64)])) := pick [(0, .rets ref15_RunsOn.sp0 [(Ty.int .i64), Ty.HwModel, Ty.HwCode] (iterR (ref15_RunsOn.r0 N) N))]
theorem ref15_RunsOn.r0_eq (N : Nat) (x : PT U [(Ty.int .i64), Ty.HwModel, Ty.HwCode]) : roundRF (ref15_RunsOn.cx N) Proofs.Tryz.f25 (ref15_RunsOn.ct N) (ref15_RunsOn.L N) ref15_RunsOn.sp0 [(Ty.int .i64), Ty.HwModel, Ty.HwCode] 0 x = ref15_RunsOn.r0 N x := by kernel_rfl
theorem ref15_RunsOn.eq (N : Nat) (a0 : HwModel) (a1 : HwCode) : runF (ref15_RunsOn.cx N) Proofs.Tryz.f25 (ref15_RunsOn.ct N) (ref15_RunsOn.L N) [⟨Ty.HwModel, a0⟩, ⟨Ty.HwCode, a1⟩] = ref15_RunsOn N a0 a1 := by kernel_rfl
theorem ref15_RunsOn.ok (N : Nat) : ∀ y, finOk (ref15_RunsOn.cx N) (ref15_RunsOn.ct N) y = true := fun y => by kernel_rfl
theorem ref15_RunsOn.meets (N : Nat) : Meets (ref15_RunsOn.cx N) 25 (ref15_RunsOn.ct N) :=
  meets_run (C := ref15_RunsOn.cx N) (ct := ref15_RunsOn.ct N) (Lp := ref15_RunsOn.L N) claws (ook_of (l := [(67, ref15_lacks.ct), (68, ref15_hasRegisters.ct)]) rfl (all_cons (Meets.ctx (C := ref15_lacks.cx) (C' := ref15_RunsOn.cx N) rfl rfl rfl ref15_lacks.meets) (all_cons (Meets.ctx (C := ref15_hasRegisters.cx) (C' := ref15_RunsOn.cx N) rfl rfl rfl ref15_hasRegisters.meets) (all_nil)))) (xok_of (l := []) rfl (all_nil)) Proofs.Tryz.func25 (by kernel_rfl) rfl (lok_of (l := [(0, .rets ref15_RunsOn.sp0 [(Ty.int .i64), Ty.HwModel, Ty.HwCode] (iterR (ref15_RunsOn.r0 N) N))]) rfl (all_cons (lok_rets (ref15_RunsOn.r0_eq N)) (all_nil))) (ref15_RunsOn.ok N) (app_run (U := U) [Ty.HwModel, Ty.HwCode] (ref15_RunsOn N) (runF (ref15_RunsOn.cx N) Proofs.Tryz.f25 (ref15_RunsOn.ct N) (ref15_RunsOn.L N)) (ref15_RunsOn.eq N))

noncomputable def law15_HardwarePorts (N : Nat) (a0 : HwModel) (a1 : HwCode) : Option Bool :=
  (law15_awake N).bind fun r1 => cond (!r1) (some false) ((law15_Few N (⟨(⟨a1.Storage.Bytes, a1.Storage.Tags⟩ : Storage), a1.Instructions, a1.Traps⟩ : HwCode)).bind fun r2 =>
    cond (!r2) (some true) ((ref15_OwnCode (⟨(⟨a1.Storage.Bytes, a1.Storage.Tags⟩ : Storage), a1.Instructions, a1.Traps⟩ : HwCode)).bind fun r3 =>
    (hardware_RunsOn N (⟨a0.Registers, a0.Fused, a0.Memory⟩ : HwModel) (⟨(⟨r3.Storage.Bytes, r3.Storage.Tags⟩ : Storage), r3.Instructions, r3.Traps⟩ : HwCode)).bind fun r4 =>
    (ref15_ModelErr (⟨a0.Registers, a0.Fused, a0.Memory⟩ : HwModel)).bind fun r5 => cond (r5 == 0) ((ref15_Largest).bind fun r6 =>
    (ref15_CodeErr N (⟨r6.Registers, r6.Fused, r6.Memory⟩ : HwModel) (⟨(⟨a1.Storage.Bytes, a1.Storage.Tags⟩ : Storage), a1.Instructions, a1.Traps⟩ : HwCode)).bind fun r7 =>
    cond (r7 != 0) ((cond (r4.2.2 == r7) (some (!r4.1)) (some false)).bind fun g8 => (cond g8 (some (r4.2.1 == 0)) (some false)).bind fun g9 => some g9)
    ((ref15_RunsOn N a0 a1).bind fun r10 => (cond (r4.2.2 == 0) (some (r4.2.1 == r10)) (some false)).bind fun g11 => (cond g11 (some (r4.1 == (r10 == (a1.Instructions.length : Int))))
    (some false)).bind fun g12 => some g12)) (cond (r5 != 0) ((cond (r4.2.2 == r5) (some (!r4.1)) (some false)).bind fun g13 => (cond g13 (some (r4.2.1 == 0))
    (some false)).bind fun g14 => some g14) ((ref15_RunsOn N a0 a1).bind fun r15 => (cond (r4.2.2 == 0) (some (r4.2.1 == r15)) (some false)).bind fun g16 =>
    (cond g16 (some (r4.1 == (r15 == (a1.Instructions.length : Int)))) (some false)).bind fun g17 => some g17))))
noncomputable def law15_HardwarePorts.ct (N : Nat) : Ct U := { params := [.val Ty.HwModel, .val Ty.HwCode], results := [Ty.bool], outs := [], fresh := [], fn := app U [Ty.HwModel, Ty.HwCode] (R := PT U [Ty.bool]) (law15_HardwarePorts N) }
noncomputable def law15_HardwarePorts.cx (N : Nat) : Ctx U := mkCx [(12, law15_awake.ct N), (13, law15_Few.ct N), (15, ref15_OwnCode.ct), (18, ref15_ModelErr.ct), (20, ref15_CodeErr.ct N), (23, hardware_RunsOn.ct N), (24, ref15_Largest.ct), (25, ref15_RunsOn.ct N)] [] [] [] [18, 27] [] [] []
noncomputable def law15_HardwarePorts.L (N : Nat) : Nat → Option (Cut U (PT U [Ty.bool])) := pick []
theorem law15_HardwarePorts.eq (N : Nat) (a0 : HwModel) (a1 : HwCode) : runF (law15_HardwarePorts.cx N) Proofs.Tryz.f5 (law15_HardwarePorts.ct N) (law15_HardwarePorts.L N) [⟨Ty.HwModel, a0⟩, ⟨Ty.HwCode, a1⟩] = law15_HardwarePorts N a0 a1 := by kernel_rfl
theorem law15_HardwarePorts.ok (N : Nat) : ∀ y, finOk (law15_HardwarePorts.cx N) (law15_HardwarePorts.ct N) y = true := fun y => by kernel_rfl
theorem law15_HardwarePorts.meets (N : Nat) : Meets (law15_HardwarePorts.cx N) 5 (law15_HardwarePorts.ct N) :=
  meets_run (C := law15_HardwarePorts.cx N) (ct := law15_HardwarePorts.ct N) (Lp := law15_HardwarePorts.L N) claws (ook_of (l := [(12, law15_awake.ct N), (13, law15_Few.ct N), (15, ref15_OwnCode.ct), (18, ref15_ModelErr.ct), (20, ref15_CodeErr.ct N), (23, hardware_RunsOn.ct N), (24, ref15_Largest.ct), (25, ref15_RunsOn.ct N)]) rfl (all_cons (Meets.ctx (C := law15_awake.cx N) (C' := law15_HardwarePorts.cx N) rfl rfl rfl (law15_awake.meets N)) (all_cons (Meets.ctx (C := law15_Few.cx N) (C' := law15_HardwarePorts.cx N) rfl rfl rfl (law15_Few.meets N)) (all_cons (Meets.ctx (C := ref15_OwnCode.cx) (C' := law15_HardwarePorts.cx N) rfl rfl rfl ref15_OwnCode.meets) (all_cons (Meets.ctx (C := ref15_ModelErr.cx) (C' := law15_HardwarePorts.cx N) rfl rfl rfl ref15_ModelErr.meets) (all_cons (Meets.ctx (C := ref15_CodeErr.cx N) (C' := law15_HardwarePorts.cx N) rfl rfl rfl (ref15_CodeErr.meets N)) (all_cons (Meets.ctx (C := hardware_RunsOn.cx N) (C' := law15_HardwarePorts.cx N) rfl rfl rfl (hardware_RunsOn.meets N)) (all_cons (Meets.ctx (C := ref15_Largest.cx) (C' := law15_HardwarePorts.cx N) rfl rfl rfl ref15_Largest.meets) (all_cons (Meets.ctx (C := ref15_RunsOn.cx N) (C' := law15_HardwarePorts.cx N) rfl rfl rfl (ref15_RunsOn.meets N)) (all_nil)))))))))) (xok_of (l := []) rfl (all_nil)) Proofs.Tryz.func5 (by kernel_rfl) rfl (lok_of (l := []) rfl (all_nil)) (law15_HardwarePorts.ok N) (app_run (U := U) [Ty.HwModel, Ty.HwCode] (law15_HardwarePorts N) (runF (law15_HardwarePorts.cx N) Proofs.Tryz.f5 (law15_HardwarePorts.ct N) (law15_HardwarePorts.L N)) (law15_HardwarePorts.eq N))
end Go.Proofs.YtppbpnknfigboaaGreatDoor.M
