/- What the program's functions compute, each tied to its code: part 2. -/
import Derived.Test.YtppbpnknfigboaaGreatDoorF1
namespace Go.Proofs.YtppbpnknfigboaaGreatDoor.M
open Go Go.Amx
set_option linter.unusedVariables false
set_option maxRecDepth 100000
noncomputable def numeric_calculated (N : Nat) (a0 : Int) (a1 : Number) (a2 : Number) (a3 : DataType) (a4 : Bool) : Option (Value × Int) :=
  (numeric_divides a0).bind fun r1 => (cond r1 (some (a2.N == 0)) (some false)).bind fun g2 => cond g2 (some ((⟨0, (⟨#[]⟩ : ByteArray)⟩ : Value), 20))
    ((numeric_result N a0 a1 a2).bind fun r3 => (numeric_fraction_put N r3 a3 a4).bind fun r4 => some (r4.1, r4.2))
noncomputable def numeric_calculated.ct (N : Nat) : Ct U := { params := [.val (Ty.int .i64), .val Ty.Number, .val Ty.Number, .val Ty.DataType, .val Ty.bool], results := [Ty.Value, (Ty.int .i64)], outs := [], fresh := [], fn := app U [(Ty.int .i64), Ty.Number, Ty.Number, Ty.DataType, Ty.bool] (R := PT U [Ty.Value, (Ty.int .i64)]) (numeric_calculated N) }
noncomputable def numeric_calculated.cx (N : Nat) : Ctx U := mkCx [(273, numeric_fraction_put.ct N), (324, numeric_divides.ct), (325, numeric_result.ct N)] [] [] [] [23] [] [] []
noncomputable def numeric_calculated.L (N : Nat) : Nat → Option (Cut U (PT U [Ty.Value, (Ty.int .i64)])) := pick []
theorem numeric_calculated.eq (N : Nat) (a0 : Int) (a1 : Number) (a2 : Number) (a3 : DataType) (a4 : Bool) : runF (numeric_calculated.cx N) Proofs.Tryz.f276 (numeric_calculated.ct N) (numeric_calculated.L N) [⟨(Ty.int .i64), a0⟩, ⟨Ty.Number, a1⟩, ⟨Ty.Number, a2⟩, ⟨Ty.DataType, a3⟩, ⟨Ty.bool, a4⟩] = numeric_calculated N a0 a1 a2 a3 a4 := by kernel_rfl
theorem numeric_calculated.ok (N : Nat) : ∀ y, finOk (numeric_calculated.cx N) (numeric_calculated.ct N) y = true := fun y => by kernel_rfl
theorem numeric_calculated.meets (N : Nat) : Meets (numeric_calculated.cx N) 276 (numeric_calculated.ct N) :=
  meets_run (C := numeric_calculated.cx N) (ct := numeric_calculated.ct N) (Lp := numeric_calculated.L N) claws (ook_of (l := [(273, numeric_fraction_put.ct N), (324, numeric_divides.ct), (325, numeric_result.ct N)]) rfl (all_cons (Meets.ctx (C := numeric_fraction_put.cx N) (C' := numeric_calculated.cx N) rfl rfl rfl (numeric_fraction_put.meets N)) (all_cons (Meets.ctx (C := numeric_divides.cx) (C' := numeric_calculated.cx N) rfl rfl rfl numeric_divides.meets) (all_cons (Meets.ctx (C := numeric_result.cx N) (C' := numeric_calculated.cx N) rfl rfl rfl (numeric_result.meets N)) (all_nil))))) (xok_of (l := []) rfl (all_nil)) Proofs.Tryz.func276 (by kernel_rfl) rfl (lok_of (l := []) rfl (all_nil)) (numeric_calculated.ok N) (app_run (U := U) [(Ty.int .i64), Ty.Number, Ty.Number, Ty.DataType, Ty.bool] (numeric_calculated N) (runF (numeric_calculated.cx N) Proofs.Tryz.f276 (numeric_calculated.ct N) (numeric_calculated.L N)) (numeric_calculated.eq N))

noncomputable def numeric_Calculated (N : Nat) (a0 : Int) (a1 : Number) (a2 : Number) (a3 : DataType) (a4 : Bool) : Option (Value × Int) :=
  (numeric_isOp a0).bind fun r1 => (numeric_cond (!r1) 4).bind fun r2 => (numeric_CheckNumber a1).bind fun r3 => (numeric_CheckNumber a2).bind fun r4 =>
    (numeric_CheckType N a3).bind fun r5 => (numeric_isNumeric a3).bind fun r6 => (numeric_cond (!r6) 17).bind fun r7 =>
    (numeric_first N ([r2, r3, r4, r5, r7] : List Int)).bind fun r8 => cond (r8 != 0) (some ((⟨0, (⟨#[]⟩ : ByteArray)⟩ : Value), r8))
    ((numeric_calculated N a0 a1 a2 a3 a4).bind fun r9 => some (r9.1, r9.2))
noncomputable def numeric_Calculated.ct (N : Nat) : Ct U := { params := [.val (Ty.int .i64), .val Ty.Number, .val Ty.Number, .val Ty.DataType, .val Ty.bool], results := [Ty.Value, (Ty.int .i64)], outs := [], fresh := [], fn := app U [(Ty.int .i64), Ty.Number, Ty.Number, Ty.DataType, Ty.bool] (R := PT U [Ty.Value, (Ty.int .i64)]) (numeric_Calculated N) }
noncomputable def numeric_Calculated.cx (N : Nat) : Ctx U := mkCx [(78, numeric_CheckNumber.ct), (118, numeric_cond.ct), (202, numeric_CheckType.ct N), (265, numeric_first.ct N), (271, numeric_isNumeric.ct), (275, numeric_isOp.ct), (276, numeric_calculated.ct N)] [] [] [] [16, 18, 20, 22, 26, 27] [] [] []
noncomputable def numeric_Calculated.L (N : Nat) : Nat → Option (Cut U (PT U [Ty.Value, (Ty.int .i64)])) := pick []
theorem numeric_Calculated.eq (N : Nat) (a0 : Int) (a1 : Number) (a2 : Number) (a3 : DataType) (a4 : Bool) : runF (numeric_Calculated.cx N) Proofs.Tryz.f211 (numeric_Calculated.ct N) (numeric_Calculated.L N) [⟨(Ty.int .i64), a0⟩, ⟨Ty.Number, a1⟩, ⟨Ty.Number, a2⟩, ⟨Ty.DataType, a3⟩, ⟨Ty.bool, a4⟩] = numeric_Calculated N a0 a1 a2 a3 a4 := by kernel_rfl
theorem numeric_Calculated.ok (N : Nat) : ∀ y, finOk (numeric_Calculated.cx N) (numeric_Calculated.ct N) y = true := fun y => by kernel_rfl
theorem numeric_Calculated.meets (N : Nat) : Meets (numeric_Calculated.cx N) 211 (numeric_Calculated.ct N) :=
  meets_run (C := numeric_Calculated.cx N) (ct := numeric_Calculated.ct N) (Lp := numeric_Calculated.L N) claws (ook_of (l := [(78, numeric_CheckNumber.ct), (118, numeric_cond.ct), (202, numeric_CheckType.ct N), (265, numeric_first.ct N), (271, numeric_isNumeric.ct), (275, numeric_isOp.ct), (276, numeric_calculated.ct N)]) rfl (all_cons (Meets.ctx (C := numeric_CheckNumber.cx) (C' := numeric_Calculated.cx N) rfl rfl rfl numeric_CheckNumber.meets) (all_cons (Meets.ctx (C := numeric_cond.cx) (C' := numeric_Calculated.cx N) rfl rfl rfl numeric_cond.meets) (all_cons (Meets.ctx (C := numeric_CheckType.cx N) (C' := numeric_Calculated.cx N) rfl rfl rfl (numeric_CheckType.meets N)) (all_cons (Meets.ctx (C := numeric_first.cx N) (C' := numeric_Calculated.cx N) rfl rfl rfl (numeric_first.meets N)) (all_cons (Meets.ctx (C := numeric_isNumeric.cx) (C' := numeric_Calculated.cx N) rfl rfl rfl numeric_isNumeric.meets) (all_cons (Meets.ctx (C := numeric_isOp.cx) (C' := numeric_Calculated.cx N) rfl rfl rfl numeric_isOp.meets) (all_cons (Meets.ctx (C := numeric_calculated.cx N) (C' := numeric_Calculated.cx N) rfl rfl rfl (numeric_calculated.meets N)) (all_nil))))))))) (xok_of (l := []) rfl (all_nil)) Proofs.Tryz.func211 (by kernel_rfl) rfl (lok_of (l := []) rfl (all_nil)) (numeric_Calculated.ok N) (app_run (U := U) [(Ty.int .i64), Ty.Number, Ty.Number, Ty.DataType, Ty.bool] (numeric_Calculated N) (runF (numeric_Calculated.cx N) Proofs.Tryz.f211 (numeric_Calculated.ct N) (numeric_Calculated.L N)) (numeric_Calculated.eq N))

noncomputable def hardware_machine_calculate (N : Nat) (a0 : hardware_machine) (a1 : HwInstruction) : Option hardware_machine :=
  cond a1.InStorage ((hardware_machine_number N a0 a1.Place a1.Second).bind fun r1 => cond (!r1.2.1) (some r1.2.2) ((idx r1.2.2.HwState.Registers a1.A).bind fun x2 =>
    (numeric_Calculated N a1.Calculation x2 r1.1 a1.Type_ false).bind fun r3 => (hardware_machine_raise r1.2.2 (r3.2 == 20) 3).bind fun r4 =>
    cond r4.1 ((hardware_machine_raise r4.2 (r3.2 != 0) 2).bind fun r5 => cond r5.1 ((hardware_machine_set r5.2 a1.R (⟨r3.1.N, a1.Type_.Scale⟩ : Number)).bind fun r6 => some r6)
    (some r5.2)) (some r4.2))) ((idx a0.HwState.Registers a1.B).bind fun x7 => (idx a0.HwState.Registers a1.A).bind fun x8 =>
    (numeric_Calculated N a1.Calculation x8 x7 a1.Type_ false).bind fun r9 => (hardware_machine_raise a0 (r9.2 == 20) 3).bind fun r10 =>
    cond r10.1 ((hardware_machine_raise r10.2 (r9.2 != 0) 2).bind fun r11 => cond r11.1 ((hardware_machine_set r11.2 a1.R (⟨r9.1.N, a1.Type_.Scale⟩ : Number)).bind fun r12 =>
    some r12) (some r11.2)) (some r10.2))
noncomputable def hardware_machine_calculate.ct (N : Nat) : Ct U := { params := [.ptr Ty.hardware_machine true [], .val Ty.HwInstruction], results := [], outs := [Ty.hardware_machine], fresh := [], fn := app U [Ty.hardware_machine, Ty.HwInstruction] (R := PT U [Ty.hardware_machine]) (hardware_machine_calculate N) }
noncomputable def hardware_machine_calculate.cx (N : Nat) : Ctx U := mkCx [(146, hardware_machine_number.ct N), (147, hardware_machine_set.ct), (206, hardware_machine_raise.ct), (211, numeric_Calculated.ct N)] [] [] [] [] [] [1000000] []
noncomputable def hardware_machine_calculate.L (N : Nat) : Nat → Option (Cut U (PT U [Ty.hardware_machine])) := pick []
theorem hardware_machine_calculate.eq (N : Nat) (a0 : hardware_machine) (a1 : HwInstruction) : runF (hardware_machine_calculate.cx N) Proofs.Tryz.f149 (hardware_machine_calculate.ct N) (hardware_machine_calculate.L N) [⟨Ty.hardware_machine, a0⟩, ⟨Ty.HwInstruction, a1⟩] = hardware_machine_calculate N a0 a1 := by kernel_rfl
theorem hardware_machine_calculate.ok (N : Nat) : ∀ y, finOk (hardware_machine_calculate.cx N) (hardware_machine_calculate.ct N) y = true := fun y => by kernel_rfl
theorem hardware_machine_calculate.meets (N : Nat) : Meets (hardware_machine_calculate.cx N) 149 (hardware_machine_calculate.ct N) :=
  meets_run (C := hardware_machine_calculate.cx N) (ct := hardware_machine_calculate.ct N) (Lp := hardware_machine_calculate.L N) claws (ook_of (l := [(146, hardware_machine_number.ct N), (147, hardware_machine_set.ct), (206, hardware_machine_raise.ct), (211, numeric_Calculated.ct N)]) rfl (all_cons (Meets.ctx (C := hardware_machine_number.cx N) (C' := hardware_machine_calculate.cx N) rfl rfl rfl (hardware_machine_number.meets N)) (all_cons (Meets.ctx (C := hardware_machine_set.cx) (C' := hardware_machine_calculate.cx N) rfl rfl rfl hardware_machine_set.meets) (all_cons (Meets.ctx (C := hardware_machine_raise.cx) (C' := hardware_machine_calculate.cx N) rfl rfl rfl hardware_machine_raise.meets) (all_cons (Meets.ctx (C := numeric_Calculated.cx N) (C' := hardware_machine_calculate.cx N) rfl rfl rfl (numeric_Calculated.meets N)) (all_nil)))))) (xok_of (l := []) rfl (all_nil)) Proofs.Tryz.func149 (by kernel_rfl) rfl (lok_of (l := []) rfl (all_nil)) (hardware_machine_calculate.ok N) (app_run (U := U) [Ty.hardware_machine, Ty.HwInstruction] (hardware_machine_calculate N) (runF (hardware_machine_calculate.cx N) Proofs.Tryz.f149 (hardware_machine_calculate.ct N) (hardware_machine_calculate.L N)) (hardware_machine_calculate.eq N))

noncomputable def numeric_Compared (N : Nat) (a0 : Number) (a1 : Number) : Option (Int × Int) :=
  (numeric_CheckNumber a0).bind fun r1 => (numeric_CheckNumber a1).bind fun r2 => (numeric_first N ([r1, r2] : List Int)).bind fun r3 => cond (r3 != 0) (some (0, r3))
    ((numeric_aligned N a0 a1).bind fun r4 => (cond (decide (a0.N < 0)) (some (decide (a1.N < 0))) (some false)).bind fun g5 =>
    cond g5 ((numeric_wide_compare N r4.2.1 r4.1).bind fun r6 => some (r6, 0)) (cond (decide (a0.N < 0)) (some ((-1), 0)) (cond (decide (a1.N < 0)) (some (1, 0))
    ((numeric_wide_compare N r4.1 r4.2.1).bind fun r7 => some (r7, 0)))))
noncomputable def numeric_Compared.ct (N : Nat) : Ct U := { params := [.val Ty.Number, .val Ty.Number], results := [(Ty.int .i64), (Ty.int .i64)], outs := [], fresh := [], fn := app U [Ty.Number, Ty.Number] (R := PT U [(Ty.int .i64), (Ty.int .i64)]) (numeric_Compared N) }
noncomputable def numeric_Compared.cx (N : Nat) : Ctx U := mkCx [(78, numeric_CheckNumber.ct), (265, numeric_first.ct N), (277, numeric_aligned.ct N), (278, numeric_wide_compare.ct N)] [] [] [] [11, 13, 14] [] [] []
noncomputable def numeric_Compared.L (N : Nat) : Nat → Option (Cut U (PT U [(Ty.int .i64), (Ty.int .i64)])) := pick []
theorem numeric_Compared.eq (N : Nat) (a0 : Number) (a1 : Number) : runF (numeric_Compared.cx N) Proofs.Tryz.f212 (numeric_Compared.ct N) (numeric_Compared.L N) [⟨Ty.Number, a0⟩, ⟨Ty.Number, a1⟩] = numeric_Compared N a0 a1 := by kernel_rfl
theorem numeric_Compared.ok (N : Nat) : ∀ y, finOk (numeric_Compared.cx N) (numeric_Compared.ct N) y = true := fun y => by kernel_rfl
theorem numeric_Compared.meets (N : Nat) : Meets (numeric_Compared.cx N) 212 (numeric_Compared.ct N) :=
  meets_run (C := numeric_Compared.cx N) (ct := numeric_Compared.ct N) (Lp := numeric_Compared.L N) claws (ook_of (l := [(78, numeric_CheckNumber.ct), (265, numeric_first.ct N), (277, numeric_aligned.ct N), (278, numeric_wide_compare.ct N)]) rfl (all_cons (Meets.ctx (C := numeric_CheckNumber.cx) (C' := numeric_Compared.cx N) rfl rfl rfl numeric_CheckNumber.meets) (all_cons (Meets.ctx (C := numeric_first.cx N) (C' := numeric_Compared.cx N) rfl rfl rfl (numeric_first.meets N)) (all_cons (Meets.ctx (C := numeric_aligned.cx N) (C' := numeric_Compared.cx N) rfl rfl rfl (numeric_aligned.meets N)) (all_cons (Meets.ctx (C := numeric_wide_compare.cx N) (C' := numeric_Compared.cx N) rfl rfl rfl (numeric_wide_compare.meets N)) (all_nil)))))) (xok_of (l := []) rfl (all_nil)) Proofs.Tryz.func212 (by kernel_rfl) rfl (lok_of (l := []) rfl (all_nil)) (numeric_Compared.ok N) (app_run (U := U) [Ty.Number, Ty.Number] (numeric_Compared N) (runF (numeric_Compared.cx N) Proofs.Tryz.f212 (numeric_Compared.ct N) (numeric_Compared.L N)) (numeric_Compared.eq N))

noncomputable def hardware_condition (a0 : Int) : Option Int :=
  cond (decide (a0 < 0)) (some 1) (cond (decide (a0 > 0)) (some 4) (some 2))
noncomputable def hardware_condition.ct : Ct U := { params := [.val (Ty.int .i64)], results := [(Ty.int .i64)], outs := [], fresh := [], fn := app U [(Ty.int .i64)] (R := PT U [(Ty.int .i64)]) (hardware_condition) }
noncomputable def hardware_condition.cx : Ctx U := mkCx [] [] [] [] [] [] [] []
noncomputable def hardware_condition.L : Nat → Option (Cut U (PT U [(Ty.int .i64)])) := pick []
theorem hardware_condition.eq (a0 : Int) : runF (hardware_condition.cx) Proofs.Tryz.f213 (hardware_condition.ct) (hardware_condition.L) [⟨(Ty.int .i64), a0⟩] = hardware_condition a0 := by kernel_rfl
theorem hardware_condition.ok : ∀ y, finOk (hardware_condition.cx) (hardware_condition.ct) y = true := fun y => by kernel_rfl
theorem hardware_condition.meets : Meets (hardware_condition.cx) 213 (hardware_condition.ct) :=
  meets_run (C := hardware_condition.cx) (ct := hardware_condition.ct) (Lp := hardware_condition.L) claws (ook_of (l := []) rfl (all_nil)) (xok_of (l := []) rfl (all_nil)) Proofs.Tryz.func213 (by kernel_rfl) rfl (lok_of (l := []) rfl (all_nil)) (hardware_condition.ok) (app_run (U := U) [(Ty.int .i64)] (hardware_condition) (runF (hardware_condition.cx) Proofs.Tryz.f213 (hardware_condition.ct) (hardware_condition.L)) hardware_condition.eq)

noncomputable def hardware_machine_registersOrder (N : Nat) (a0 : hardware_machine) (a1 : HwInstruction) : Option Int :=
  (idx a0.HwState.Registers a1.A).bind fun x1 => (idx a0.HwState.Registers a1.B).bind fun x2 => (numeric_Compared N x1 x2).bind fun r3 => (hardware_condition r3.1).bind fun r4 =>
    some r4
noncomputable def hardware_machine_registersOrder.ct (N : Nat) : Ct U := { params := [.ptr Ty.hardware_machine false [], .val Ty.HwInstruction], results := [(Ty.int .i64)], outs := [], fresh := [], fn := app U [Ty.hardware_machine, Ty.HwInstruction] (R := PT U [(Ty.int .i64)]) (hardware_machine_registersOrder N) }
noncomputable def hardware_machine_registersOrder.cx (N : Nat) : Ctx U := mkCx [(212, numeric_Compared.ct N), (213, hardware_condition.ct)] [] [] [] [] [1000000] [1000000] []
noncomputable def hardware_machine_registersOrder.L (N : Nat) : Nat → Option (Cut U (PT U [(Ty.int .i64)])) := pick []
theorem hardware_machine_registersOrder.eq (N : Nat) (a0 : hardware_machine) (a1 : HwInstruction) : runF (hardware_machine_registersOrder.cx N) Proofs.Tryz.f150 (hardware_machine_registersOrder.ct N) (hardware_machine_registersOrder.L N) [⟨Ty.hardware_machine, a0⟩, ⟨Ty.HwInstruction, a1⟩] = hardware_machine_registersOrder N a0 a1 := by kernel_rfl
theorem hardware_machine_registersOrder.ok (N : Nat) : ∀ y, finOk (hardware_machine_registersOrder.cx N) (hardware_machine_registersOrder.ct N) y = true := fun y => by kernel_rfl
theorem hardware_machine_registersOrder.meets (N : Nat) : Meets (hardware_machine_registersOrder.cx N) 150 (hardware_machine_registersOrder.ct N) :=
  meets_run (C := hardware_machine_registersOrder.cx N) (ct := hardware_machine_registersOrder.ct N) (Lp := hardware_machine_registersOrder.L N) claws (ook_of (l := [(212, numeric_Compared.ct N), (213, hardware_condition.ct)]) rfl (all_cons (Meets.ctx (C := numeric_Compared.cx N) (C' := hardware_machine_registersOrder.cx N) rfl rfl rfl (numeric_Compared.meets N)) (all_cons (Meets.ctx (C := hardware_condition.cx) (C' := hardware_machine_registersOrder.cx N) rfl rfl rfl hardware_condition.meets) (all_nil)))) (xok_of (l := []) rfl (all_nil)) Proofs.Tryz.func150 (by kernel_rfl) rfl (lok_of (l := []) rfl (all_nil)) (hardware_machine_registersOrder.ok N) (app_run (U := U) [Ty.hardware_machine, Ty.HwInstruction] (hardware_machine_registersOrder N) (runF (hardware_machine_registersOrder.cx N) Proofs.Tryz.f150 (hardware_machine_registersOrder.ct N) (hardware_machine_registersOrder.L N)) (hardware_machine_registersOrder.eq N))

noncomputable def x279 : Ct U := { params := [.val Ty.str, .val (Ty.int .i64)], results := [Ty.str], outs := [], fresh := [], fn := app U [Ty.str, (Ty.int .i64)] (R := PT U [Ty.str]) (xRepeat) }
theorem x279.meets : Meets (mkCx [] [] [] [] [] [] [] []) 279 x279 :=
  meets_calls ⟨_, Proofs.Tryz.func279, rfl, by kernel_rfl⟩ (t := Ty.str) rfl rfl rfl rfl fun ds y hy E0 h0 ha μ H w us hA hm hG => by
    obtain ⟨s, n, rfl, hx⟩ := app2 hy
    unfold xRepeat at hx
    split at hx
    · rename_i hn
      cases hx
      have hE : some ([.sc (.string s), .sc (.int .i64 n)], []) = some (E0, h0) := ha
      cases hE
      cases hA with
      | cons h1 h2 =>
        cases h2 with
        | cons h2 h3 =>
          cases h3
          have hu := h1.int
          have hu2 := h2.int
          subst hu hu2
          refine ⟨_, rfl, ?_⟩
          have hc := Proofs.Tryz.strings_Repeat s n.toNat w (by omega) hn.2.2
          have he : ((n.toNat : Nat) : Int) = n := by omega
          rw [he] at hc
          exact hc.mono fun e w' hh => ⟨_, hh.1, wd_of_below hh.2, .sc _⟩
    · cases hx

noncomputable def hardware_pad (a0 : ByteArray) (a1 : Int) : Option ByteArray :=
  (xRepeat (⟨#[32]⟩ : ByteArray) (if 0 > (IntKind.wrap .i64 (a1 - (a0.size : Int))) then 0 else (IntKind.wrap .i64 (a1 - (a0.size : Int))))).bind fun r1 =>
    if ((a0.size + r1.size : Nat) : Int) > IntKind.i64.max then none else some (a0 ++ r1)
noncomputable def hardware_pad.ct : Ct U := { params := [.val Ty.str, .val (Ty.int .i64)], results := [Ty.str], outs := [], fresh := [], fn := app U [Ty.str, (Ty.int .i64)] (R := PT U [Ty.str]) (hardware_pad) }
noncomputable def hardware_pad.cx : Ctx U := mkCx [(279, x279)] [] [] [] [10] [] [] []
noncomputable def hardware_pad.L : Nat → Option (Cut U (PT U [Ty.str])) := pick []
theorem hardware_pad.eq (a0 : ByteArray) (a1 : Int) : runF (hardware_pad.cx) Proofs.Tryz.f214 (hardware_pad.ct) (hardware_pad.L) [⟨Ty.str, a0⟩, ⟨(Ty.int .i64), a1⟩] = hardware_pad a0 a1 := by kernel_rfl
theorem hardware_pad.ok : ∀ y, finOk (hardware_pad.cx) (hardware_pad.ct) y = true := fun y => by kernel_rfl
theorem hardware_pad.meets : Meets (hardware_pad.cx) 214 (hardware_pad.ct) :=
  meets_run (C := hardware_pad.cx) (ct := hardware_pad.ct) (Lp := hardware_pad.L) claws (ook_of (l := [(279, x279)]) rfl (all_cons (Meets.ctx (C := mkCx [] [] [] [] [] [] [] []) (C' := hardware_pad.cx) rfl rfl rfl x279.meets) (all_nil))) (xok_of (l := []) rfl (all_nil)) Proofs.Tryz.func214 (by kernel_rfl) rfl (lok_of (l := []) rfl (all_nil)) (hardware_pad.ok) (app_run (U := U) [Ty.str, (Ty.int .i64)] (hardware_pad) (runF (hardware_pad.cx) Proofs.Tryz.f214 (hardware_pad.ct) (hardware_pad.L)) hardware_pad.eq)

noncomputable def hardware_machine_moveBytes (N : Nat) (a0 : hardware_machine) (a1 : HwInstruction) : Option hardware_machine :=
  cond (a1.Op == 9) ((hardware_machine_bytes N a0 a1.From a1.Second).bind fun r1 => cond r1.2.1 ((hardware_pad r1.1 a1.Type_.Length).bind fun r2 =>
    if 0 ≤ a1.Type_.Length ∧ a1.Type_.Length ≤ (r2.size : Int) then (if 0 ≤ (0 : Int) ∧ (0 : Int) ≤ a1.Type_.Length then ((hardware_machine_write N r1.2.2 a1.Place (r2.extract (0 : Int).toNat a1.Type_.Length.toNat)).bind fun r3 =>
    some r3) else none) else none) (some r1.2.2)) ((hardware_pad a1.Text a1.Type_.Length).bind fun r4 =>
    if 0 ≤ a1.Type_.Length ∧ a1.Type_.Length ≤ (r4.size : Int) then (if 0 ≤ (0 : Int) ∧ (0 : Int) ≤ a1.Type_.Length then ((hardware_machine_write N a0 a1.Place (r4.extract (0 : Int).toNat a1.Type_.Length.toNat)).bind fun r5 =>
    some r5) else none) else none)
noncomputable def hardware_machine_moveBytes.ct (N : Nat) : Ct U := { params := [.ptr Ty.hardware_machine true [], .val Ty.HwInstruction], results := [], outs := [Ty.hardware_machine], fresh := [], fn := app U [Ty.hardware_machine, Ty.HwInstruction] (R := PT U [Ty.hardware_machine]) (hardware_machine_moveBytes N) }
noncomputable def hardware_machine_moveBytes.cx (N : Nat) : Ctx U := mkCx [(204, hardware_machine_bytes.ct N), (210, hardware_machine_write.ct N), (214, hardware_pad.ct)] [] [] [] [] [] [1000000] []
noncomputable def hardware_machine_moveBytes.L (N : Nat) : Nat → Option (Cut U (PT U [Ty.hardware_machine])) := pick []
theorem hardware_machine_moveBytes.eq (N : Nat) (a0 : hardware_machine) (a1 : HwInstruction) : runF (hardware_machine_moveBytes.cx N) Proofs.Tryz.f151 (hardware_machine_moveBytes.ct N) (hardware_machine_moveBytes.L N) [⟨Ty.hardware_machine, a0⟩, ⟨Ty.HwInstruction, a1⟩] = hardware_machine_moveBytes N a0 a1 := by kernel_rfl
theorem hardware_machine_moveBytes.ok (N : Nat) : ∀ y, finOk (hardware_machine_moveBytes.cx N) (hardware_machine_moveBytes.ct N) y = true := fun y => by kernel_rfl
theorem hardware_machine_moveBytes.meets (N : Nat) : Meets (hardware_machine_moveBytes.cx N) 151 (hardware_machine_moveBytes.ct N) :=
  meets_run (C := hardware_machine_moveBytes.cx N) (ct := hardware_machine_moveBytes.ct N) (Lp := hardware_machine_moveBytes.L N) claws (ook_of (l := [(204, hardware_machine_bytes.ct N), (210, hardware_machine_write.ct N), (214, hardware_pad.ct)]) rfl (all_cons (Meets.ctx (C := hardware_machine_bytes.cx N) (C' := hardware_machine_moveBytes.cx N) rfl rfl rfl (hardware_machine_bytes.meets N)) (all_cons (Meets.ctx (C := hardware_machine_write.cx N) (C' := hardware_machine_moveBytes.cx N) rfl rfl rfl (hardware_machine_write.meets N)) (all_cons (Meets.ctx (C := hardware_pad.cx) (C' := hardware_machine_moveBytes.cx N) rfl rfl rfl hardware_pad.meets) (all_nil))))) (xok_of (l := []) rfl (all_nil)) Proofs.Tryz.func151 (by kernel_rfl) rfl (lok_of (l := []) rfl (all_nil)) (hardware_machine_moveBytes.ok N) (app_run (U := U) [Ty.hardware_machine, Ty.HwInstruction] (hardware_machine_moveBytes N) (runF (hardware_machine_moveBytes.cx N) Proofs.Tryz.f151 (hardware_machine_moveBytes.ct N) (hardware_machine_moveBytes.L N)) (hardware_machine_moveBytes.eq N))

noncomputable def internal_bytealg_CompareString (a0 : ByteArray) (a1 : ByteArray) : Option Int :=
  some (Extern.BytealgCompare.cmp a0 a1)
noncomputable def internal_bytealg_CompareString.ct : Ct U := { params := [.val Ty.str, .val Ty.str], results := [(Ty.int .i64)], outs := [], fresh := [], fn := app U [Ty.str, Ty.str] (R := PT U [(Ty.int .i64)]) (internal_bytealg_CompareString) }
noncomputable def internal_bytealg_CompareString.cx : Ctx U := mkCx [] [(331, 2)] [] [] [] [] [] []
noncomputable def internal_bytealg_CompareString.L : Nat → Option (Cut U (PT U [(Ty.int .i64)])) := pick []
theorem internal_bytealg_CompareString.eq (a0 : ByteArray) (a1 : ByteArray) : runF (internal_bytealg_CompareString.cx) Proofs.Tryz.f280 (internal_bytealg_CompareString.ct) (internal_bytealg_CompareString.L) [⟨Ty.str, a0⟩, ⟨Ty.str, a1⟩] = internal_bytealg_CompareString a0 a1 := by kernel_rfl
theorem internal_bytealg_CompareString.ok : ∀ y, finOk (internal_bytealg_CompareString.cx) (internal_bytealg_CompareString.ct) y = true := fun y => by kernel_rfl
theorem internal_bytealg_CompareString.meets : Meets (internal_bytealg_CompareString.cx) 280 (internal_bytealg_CompareString.ct) :=
  meets_run (C := internal_bytealg_CompareString.cx) (ct := internal_bytealg_CompareString.ct) (Lp := internal_bytealg_CompareString.L) claws (ook_of (l := []) rfl (all_nil)) (xok_of (l := [(331, 2)]) rfl (all_cons (xf331) (all_nil))) Proofs.Tryz.func280 (by kernel_rfl) rfl (lok_of (l := []) rfl (all_nil)) (internal_bytealg_CompareString.ok) (app_run (U := U) [Ty.str, Ty.str] (internal_bytealg_CompareString) (runF (internal_bytealg_CompareString.cx) Proofs.Tryz.f280 (internal_bytealg_CompareString.ct) (internal_bytealg_CompareString.L)) internal_bytealg_CompareString.eq)

noncomputable def strings_Compare (a0 : ByteArray) (a1 : ByteArray) : Option Int :=
  (internal_bytealg_CompareString a0 a1).bind fun r1 => some r1
noncomputable def strings_Compare.ct : Ct U := { params := [.val Ty.str, .val Ty.str], results := [(Ty.int .i64)], outs := [], fresh := [], fn := app U [Ty.str, Ty.str] (R := PT U [(Ty.int .i64)]) (strings_Compare) }
noncomputable def strings_Compare.cx : Ctx U := mkCx [(280, internal_bytealg_CompareString.ct)] [] [] [] [] [] [] []
noncomputable def strings_Compare.L : Nat → Option (Cut U (PT U [(Ty.int .i64)])) := pick []
theorem strings_Compare.eq (a0 : ByteArray) (a1 : ByteArray) : runF (strings_Compare.cx) Proofs.Tryz.f215 (strings_Compare.ct) (strings_Compare.L) [⟨Ty.str, a0⟩, ⟨Ty.str, a1⟩] = strings_Compare a0 a1 := by kernel_rfl
theorem strings_Compare.ok : ∀ y, finOk (strings_Compare.cx) (strings_Compare.ct) y = true := fun y => by kernel_rfl
theorem strings_Compare.meets : Meets (strings_Compare.cx) 215 (strings_Compare.ct) :=
  meets_run (C := strings_Compare.cx) (ct := strings_Compare.ct) (Lp := strings_Compare.L) claws (ook_of (l := [(280, internal_bytealg_CompareString.ct)]) rfl (all_cons (Meets.ctx (C := internal_bytealg_CompareString.cx) (C' := strings_Compare.cx) rfl rfl rfl internal_bytealg_CompareString.meets) (all_nil))) (xok_of (l := []) rfl (all_nil)) Proofs.Tryz.func215 (by kernel_rfl) rfl (lok_of (l := []) rfl (all_nil)) (strings_Compare.ok) (app_run (U := U) [Ty.str, Ty.str] (strings_Compare) (runF (strings_Compare.cx) Proofs.Tryz.f215 (strings_Compare.ct) (strings_Compare.L)) strings_Compare.eq)

noncomputable def hardware_order (a0 : ByteArray) (a1 : ByteArray) : Option Int :=
  (hardware_pad a0 (a1.size : Int)).bind fun r1 => (hardware_pad a1 (a0.size : Int)).bind fun r2 => (strings_Compare r1 r2).bind fun r3 => (hardware_condition r3).bind fun r4 =>
    some r4
noncomputable def hardware_order.ct : Ct U := { params := [.val Ty.str, .val Ty.str], results := [(Ty.int .i64)], outs := [], fresh := [], fn := app U [Ty.str, Ty.str] (R := PT U [(Ty.int .i64)]) (hardware_order) }
noncomputable def hardware_order.cx : Ctx U := mkCx [(213, hardware_condition.ct), (214, hardware_pad.ct), (215, strings_Compare.ct)] [] [] [] [7, 8, 11, 12, 13] [] [] []
noncomputable def hardware_order.L : Nat → Option (Cut U (PT U [(Ty.int .i64)])) := pick []
theorem hardware_order.eq (a0 : ByteArray) (a1 : ByteArray) : runF (hardware_order.cx) Proofs.Tryz.f153 (hardware_order.ct) (hardware_order.L) [⟨Ty.str, a0⟩, ⟨Ty.str, a1⟩] = hardware_order a0 a1 := by kernel_rfl
theorem hardware_order.ok : ∀ y, finOk (hardware_order.cx) (hardware_order.ct) y = true := fun y => by kernel_rfl
theorem hardware_order.meets : Meets (hardware_order.cx) 153 (hardware_order.ct) :=
  meets_run (C := hardware_order.cx) (ct := hardware_order.ct) (Lp := hardware_order.L) claws (ook_of (l := [(213, hardware_condition.ct), (214, hardware_pad.ct), (215, strings_Compare.ct)]) rfl (all_cons (Meets.ctx (C := hardware_condition.cx) (C' := hardware_order.cx) rfl rfl rfl hardware_condition.meets) (all_cons (Meets.ctx (C := hardware_pad.cx) (C' := hardware_order.cx) rfl rfl rfl hardware_pad.meets) (all_cons (Meets.ctx (C := strings_Compare.cx) (C' := hardware_order.cx) rfl rfl rfl strings_Compare.meets) (all_nil))))) (xok_of (l := []) rfl (all_nil)) Proofs.Tryz.func153 (by kernel_rfl) rfl (lok_of (l := []) rfl (all_nil)) (hardware_order.ok) (app_run (U := U) [Ty.str, Ty.str] (hardware_order) (runF (hardware_order.cx) Proofs.Tryz.f153 (hardware_order.ct) (hardware_order.L)) hardware_order.eq)

noncomputable def hardware_machine_compareBytes (N : Nat) (a0 : hardware_machine) (a1 : HwInstruction) : Option hardware_machine :=
  (hardware_machine_bytes N a0 a1.Place a1.Type_).bind fun r1 => (cond r1.2.1 (some (a1.Op == 11)) (some false)).bind fun g2 =>
    cond g2 ((hardware_machine_bytes N r1.2.2 a1.From a1.Second).bind fun r3 => cond r3.2.1 ((hardware_order r1.1 r3.1).bind fun r4 =>
    some (⟨(⟨r3.2.2.HwState.Registers, r4, r3.2.2.HwState.Storage, r3.2.2.HwState.At, r3.2.2.HwState.Stack, r3.2.2.HwState.Lines, r3.2.2.HwState.Status, r3.2.2.HwState.Exception, r3.2.2.HwState.Marks, r3.2.2.HwState.Steps⟩ : HwState), r3.2.2.code, r3.2.2.raised⟩ : hardware_machine))
    (some r3.2.2)) (cond r1.2.1 ((hardware_order r1.1 a1.Text).bind fun r5 =>
    some (⟨(⟨r1.2.2.HwState.Registers, r5, r1.2.2.HwState.Storage, r1.2.2.HwState.At, r1.2.2.HwState.Stack, r1.2.2.HwState.Lines, r1.2.2.HwState.Status, r1.2.2.HwState.Exception, r1.2.2.HwState.Marks, r1.2.2.HwState.Steps⟩ : HwState), r1.2.2.code, r1.2.2.raised⟩ : hardware_machine))
    (some r1.2.2))
noncomputable def hardware_machine_compareBytes.ct (N : Nat) : Ct U := { params := [.ptr Ty.hardware_machine true [], .val Ty.HwInstruction], results := [], outs := [Ty.hardware_machine], fresh := [], fn := app U [Ty.hardware_machine, Ty.HwInstruction] (R := PT U [Ty.hardware_machine]) (hardware_machine_compareBytes N) }
noncomputable def hardware_machine_compareBytes.cx (N : Nat) : Ctx U := mkCx [(153, hardware_order.ct), (204, hardware_machine_bytes.ct N)] [] [] [] [] [] [1000000] []
noncomputable def hardware_machine_compareBytes.L (N : Nat) : Nat → Option (Cut U (PT U [Ty.hardware_machine])) := pick []
theorem hardware_machine_compareBytes.eq (N : Nat) (a0 : hardware_machine) (a1 : HwInstruction) : runF (hardware_machine_compareBytes.cx N) Proofs.Tryz.f152 (hardware_machine_compareBytes.ct N) (hardware_machine_compareBytes.L N) [⟨Ty.hardware_machine, a0⟩, ⟨Ty.HwInstruction, a1⟩] = hardware_machine_compareBytes N a0 a1 := by kernel_rfl
theorem hardware_machine_compareBytes.ok (N : Nat) : ∀ y, finOk (hardware_machine_compareBytes.cx N) (hardware_machine_compareBytes.ct N) y = true := fun y => by kernel_rfl
theorem hardware_machine_compareBytes.meets (N : Nat) : Meets (hardware_machine_compareBytes.cx N) 152 (hardware_machine_compareBytes.ct N) :=
  meets_run (C := hardware_machine_compareBytes.cx N) (ct := hardware_machine_compareBytes.ct N) (Lp := hardware_machine_compareBytes.L N) claws (ook_of (l := [(153, hardware_order.ct), (204, hardware_machine_bytes.ct N)]) rfl (all_cons (Meets.ctx (C := hardware_order.cx) (C' := hardware_machine_compareBytes.cx N) rfl rfl rfl hardware_order.meets) (all_cons (Meets.ctx (C := hardware_machine_bytes.cx N) (C' := hardware_machine_compareBytes.cx N) rfl rfl rfl (hardware_machine_bytes.meets N)) (all_nil)))) (xok_of (l := []) rfl (all_nil)) Proofs.Tryz.func152 (by kernel_rfl) rfl (lok_of (l := []) rfl (all_nil)) (hardware_machine_compareBytes.ok N) (app_run (U := U) [Ty.hardware_machine, Ty.HwInstruction] (hardware_machine_compareBytes N) (runF (hardware_machine_compareBytes.cx N) Proofs.Tryz.f152 (hardware_machine_compareBytes.ct N) (hardware_machine_compareBytes.L N)) (hardware_machine_compareBytes.eq N))

noncomputable def tagged_big.sp0 : Amx.Spec U := { slots := [(0, .val (Ty.int .i64)), (1, .val (Ty.int .i64)), (5, .own 5000005 (Ty.int .u8)), (10, .val (Ty.int .i64)), (11, .val (Ty.int .i64))], boxes := [] }
noncomputable def tagged_big.b0 (N : Nat) (s0 : Int) (s1 : Int) (s5 : List Int) (s10 : Int) (s11 : Int) : Option (Stp (Int × Int × (List Int) × Int × Int)) :=
  cond (decide (s11 < s10))
    (if (IntKind.wrap .i64 (8 * s11)) < 0 then none else if 0 ≤ (IntKind.wrap .i64 ((IntKind.wrap .i64 (s1 - 1)) - s11)) then (if (IntKind.wrap .i64 ((IntKind.wrap .i64 (s1 - 1)) - s11)) < (s5.length : Int) then ((s5[(IntKind.wrap .i64 ((IntKind.wrap .i64 (s1 - 1)) - s11)).toNat]?).bind fun x1001 =>
    some (.again (s0, s1, (s5.set ((IntKind.wrap .i64 ((IntKind.wrap .i64 (s1 - 1)) - s11)).toNat)
    (IntKind.wrap .u8 ((s0 : Int).fdiv (2 ^ (min (IntKind.wrap .i64 (8 * s11)).toNat 64))))), s10, (IntKind.wrap .i64 (s11 + 1))))) else none) else none)
    (some (.leave (s0, s1, s5, s10, s11)))
noncomputable def tagged_big.r0 (N : Nat) (x : Int × Int × (List Int) × Int × Int) : Option (Stp (Int × Int × (List Int) × Int × Int)) := tagged_big.b0 N x.1 x.2.1 x.2.2.1 x.2.2.2.1 x.2.2.2.2
noncomputable def tagged_big (N : Nat) (a0 : Int) (a1 : Int) : Option ((List Int)) :=
  if 0 ≤ a1 then (if a1 ≤ a1 then (cond (Nat.ble (a1.toNat * 1) room)
    ((iterP (tagged_big.r0 N) N (a0, a1, (List.replicate a1.toNat (0 : Int)), ((List.replicate a1.toNat (0 : Int)).length : Int), 0)).bind fun y1 =>
    some y1.2.2.1) none) else none) else none
noncomputable def tagged_big.ct (N : Nat) : Ct U := { params := [.val (Ty.int .i64), .val (Ty.int .i64)], results := [(Ty.sl (Ty.int .u8))], outs := [], fresh := [], fn := app U [(Ty.int .i64), (Ty.int .i64)] (R := PT U [(Ty.sl (Ty.int .u8))]) (tagged_big N) }
noncomputable def tagged_big.cx (N : Nat) : Ctx U := mkCx [] [] [] [] [] [] [] []
noncomputable def tagged_big.L (N : Nat) : Nat → Option (Cut U (PT U [(Ty.sl (Ty.int .u8))])) := pick [(0, .plain tagged_big.sp0 [(Ty.int .i64), (Ty.int .i64), (Ty.sl (Ty.int .u8)), (Ty.int .i64), (Ty.int .i64)] (iterP (tagged_big.r0 N) N))]
theorem tagged_big.r0_eq (N : Nat) (x : PT U [(Ty.int .i64), (Ty.int .i64), (Ty.sl (Ty.int .u8)), (Ty.int .i64), (Ty.int .i64)]) : roundPF (tagged_big.cx N) Proofs.Tryz.f333 (tagged_big.L N) tagged_big.sp0 [(Ty.int .i64), (Ty.int .i64), (Ty.sl (Ty.int .u8)), (Ty.int .i64), (Ty.int .i64)] 0 x = tagged_big.r0 N x := by kernel_rfl
theorem tagged_big.eq (N : Nat) (a0 : Int) (a1 : Int) : runF (tagged_big.cx N) Proofs.Tryz.f333 (tagged_big.ct N) (tagged_big.L N) [⟨(Ty.int .i64), a0⟩, ⟨(Ty.int .i64), a1⟩] = tagged_big N a0 a1 := by kernel_rfl
theorem tagged_big.ok (N : Nat) : ∀ y, finOk (tagged_big.cx N) (tagged_big.ct N) y = true := fun y => by kernel_rfl
theorem tagged_big.meets (N : Nat) : Meets (tagged_big.cx N) 333 (tagged_big.ct N) :=
  meets_run (C := tagged_big.cx N) (ct := tagged_big.ct N) (Lp := tagged_big.L N) claws (ook_of (l := []) rfl (all_nil)) (xok_of (l := []) rfl (all_nil)) Proofs.Tryz.func333 (by kernel_rfl) rfl (lok_of (l := [(0, .plain tagged_big.sp0 [(Ty.int .i64), (Ty.int .i64), (Ty.sl (Ty.int .u8)), (Ty.int .i64), (Ty.int .i64)] (iterP (tagged_big.r0 N) N))]) rfl (all_cons (lok_plain (tagged_big.r0_eq N)) (all_nil))) (tagged_big.ok N) (app_run (U := U) [(Ty.int .i64), (Ty.int .i64)] (tagged_big N) (runF (tagged_big.cx N) Proofs.Tryz.f333 (tagged_big.ct N) (tagged_big.L N)) (tagged_big.eq N))

noncomputable def slices_Grow_byte (a0 : Unit) (a1 : Int) : Option ((List Int)) :=
  cond (decide (a1 < 0)) (none) (cond (decide ((IntKind.wrap .i64 (a1 - 0)) > 0))
    (if 0 ≤ (IntKind.wrap .i64 (a1 - 0)) then (cond (Nat.ble ((IntKind.wrap .i64 (a1 - 0)).toNat * 1) room)
    (if 0 ≤ (0 : Int) ∧ (0 : Int) ≤ ((List.replicate (IntKind.wrap .i64 (a1 - 0)).toNat (0 : Int)).length : Int) then (if 0 ≤ (0 : Int) ∧ (0 : Int) ≤ (0 : Int) then (some (((List.replicate (IntKind.wrap .i64 (a1 - 0)).toNat (0 : Int)).drop ((0 : Int).toNat)).take ((0 : Int).toNat - (0 : Int).toNat))) else none) else none) none) else none)
    (some []))
noncomputable def slices_Grow_byte.ct : Ct U := { params := [.val Ty.nil, .val (Ty.int .i64)], results := [(Ty.sl (Ty.int .u8))], outs := [], fresh := [0], fn := app U [Ty.nil, (Ty.int .i64)] (R := PT U [(Ty.sl (Ty.int .u8))]) (slices_Grow_byte) }
noncomputable def slices_Grow_byte.cx : Ctx U := mkCx [] [] [] [] [] [] [] []
noncomputable def slices_Grow_byte.L : Nat → Option (Cut U (PT U [(Ty.sl (Ty.int .u8))])) := pick []
theorem slices_Grow_byte.eq (a0 : Unit) (a1 : Int) : runF (slices_Grow_byte.cx) Proofs.Tryz.f352 (slices_Grow_byte.ct) (slices_Grow_byte.L) [⟨Ty.nil, a0⟩, ⟨(Ty.int .i64), a1⟩] = slices_Grow_byte a0 a1 := by kernel_rfl
theorem slices_Grow_byte.ok : ∀ y, finOk (slices_Grow_byte.cx) (slices_Grow_byte.ct) y = true := fun y => by kernel_rfl
theorem slices_Grow_byte.meets : Meets (slices_Grow_byte.cx) 352 (slices_Grow_byte.ct) :=
  meets_run (C := slices_Grow_byte.cx) (ct := slices_Grow_byte.ct) (Lp := slices_Grow_byte.L) claws (ook_of (l := []) rfl (all_nil)) (xok_of (l := []) rfl (all_nil)) Proofs.Tryz.func352 (by kernel_rfl) rfl (lok_of (l := []) rfl (all_nil)) (slices_Grow_byte.ok) (app_run (U := U) [Ty.nil, (Ty.int .i64)] (slices_Grow_byte) (runF (slices_Grow_byte.cx) Proofs.Tryz.f352 (slices_Grow_byte.ct) (slices_Grow_byte.L)) slices_Grow_byte.eq)

noncomputable def slices_Concat_byte.sp0 : Amx.Spec U := { slots := [(0, .val (Ty.sl (Ty.sl (Ty.int .u8)))), (3, .val (Ty.int .i64)), (9, .val (Ty.sl (Ty.sl (Ty.int .u8)))), (10, .val (Ty.int .i64)), (11, .val (Ty.int .i64))], boxes := [] }
noncomputable def slices_Concat_byte.b0 (N : Nat) (s0 : List (List Int)) (s3 : Int) (s9 : List (List Int)) (s10 : Int) (s11 : Int) : Option (Stp ((List (List Int)) × Int × (List (List Int)) × Int × Int)) :=
  cond (decide (s11 < s10)) ((idx s9 s11).bind fun x1001 => cond (decide ((IntKind.wrap .i64 (s3 + (x1001.length : Int))) < 0)) (none)
    (some (.again (s0, (IntKind.wrap .i64 (s3 + (x1001.length : Int))), s9, s10, (IntKind.wrap .i64 (s11 + 1)))))) (some (.leave (s0, s3, s9, s10, s11)))
noncomputable def slices_Concat_byte.r0 (N : Nat) (x : (List (List Int)) × Int × (List (List Int)) × Int × Int) : Option (Stp ((List (List Int)) × Int × (List (List Int)) × Int × Int)) := slices_Concat_byte.b0 N x.1 x.2.1 x.2.2.1 x.2.2.2.1 x.2.2.2.2
noncomputable def slices_Concat_byte.sp2 : Amx.Spec U := { slots := [(6, .own 5000006 (Ty.int .u8)), (25, .val (Ty.sl (Ty.sl (Ty.int .u8)))), (26, .val (Ty.int .i64)), (27, .val (Ty.int .i64))], boxes := [] }
noncomputable def slices_Concat_byte.b2 (N : Nat) (s6 : List Int) (s25 : List (List Int)) (s26 : Int) (s27 : Int) : Option (Stp ((List Int) × (List (List Int)) × Int × Int)) :=
  cond (decide (s27 < s26)) ((idx s25 s27).bind fun x3001 => cond (Nat.ble ((s6.length + x3001.length) * 1) room)
    (some (.again ((s6 ++ x3001), s25, s26, (IntKind.wrap .i64 (s27 + 1))))) none) (some (.leave (s6, s25, s26, s27)))
noncomputable def slices_Concat_byte.r2 (N : Nat) (x : (List Int) × (List (List Int)) × Int × Int) : Option (Stp ((List Int) × (List (List Int)) × Int × Int)) := slices_Concat_byte.b2 N x.1 x.2.1 x.2.2.1 x.2.2.2
noncomputable def slices_Concat_byte (N : Nat) (a0 : List (List Int)) : Option ((List Int)) :=
  (iterP (slices_Concat_byte.r0 N) N (a0, 0, a0, (a0.length : Int), 0)).bind fun y1 => (slices_Grow_byte () y1.2.1).bind fun r2 =>
    (iterP (slices_Concat_byte.r2 N) N (r2, y1.1, (y1.1.length : Int), 0)).bind fun y3 => some y3.1
noncomputable def slices_Concat_byte.ct (N : Nat) : Ct U := { params := [.val (Ty.sl (Ty.sl (Ty.int .u8)))], results := [(Ty.sl (Ty.int .u8))], outs := [], fresh := [0], fn := app U [(Ty.sl (Ty.sl (Ty.int .u8)))] (R := PT U [(Ty.sl (Ty.int .u8))]) (slices_Concat_byte N) }
noncomputable def slices_Concat_byte.cx (N : Nat) : Ctx U := mkCx [(352, slices_Grow_byte.ct)] [] [] [] [] [] [] []
noncomputable def slices_Concat_byte.L (N : Nat) : Nat → Option (Cut U (PT U [(Ty.sl (Ty.int .u8))])) := pick [(0, .plain slices_Concat_byte.sp0 [(Ty.sl (Ty.sl (Ty.int .u8))), (Ty.int .i64), (Ty.sl (Ty.sl (Ty.int .u8))), (Ty.int .i64), (Ty.int .i64)] (iterP (slices_Concat_byte.r0 N) N)), (2, .plain slices_Concat_byte.sp2 [(Ty.sl (Ty.int .u8)), (Ty.sl (Ty.sl (Ty.int .u8))), (Ty.int .i64), (Ty.int .i64)] (iterP (slices_Concat_byte.r2 N) N))]
theorem slices_Concat_byte.r0_eq (N : Nat) (x : PT U [(Ty.sl (Ty.sl (Ty.int .u8))), (Ty.int .i64), (Ty.sl (Ty.sl (Ty.int .u8))), (Ty.int .i64), (Ty.int .i64)]) : roundPF (slices_Concat_byte.cx N) Proofs.Tryz.f332 (slices_Concat_byte.L N) slices_Concat_byte.sp0 [(Ty.sl (Ty.sl (Ty.int .u8))), (Ty.int .i64), (Ty.sl (Ty.sl (Ty.int .u8))), (Ty.int .i64), (Ty.int .i64)] 0 x = slices_Concat_byte.r0 N x := by kernel_rfl
theorem slices_Concat_byte.r2_eq (N : Nat) (x : PT U [(Ty.sl (Ty.int .u8)), (Ty.sl (Ty.sl (Ty.int .u8))), (Ty.int .i64), (Ty.int .i64)]) : roundPF (slices_Concat_byte.cx N) Proofs.Tryz.f332 (slices_Concat_byte.L N) slices_Concat_byte.sp2 [(Ty.sl (Ty.int .u8)), (Ty.sl (Ty.sl (Ty.int .u8))), (Ty.int .i64), (Ty.int .i64)] 2 x = slices_Concat_byte.r2 N x := by kernel_rfl
theorem slices_Concat_byte.eq (N : Nat) (a0 : List (List Int)) : runF (slices_Concat_byte.cx N) Proofs.Tryz.f332 (slices_Concat_byte.ct N) (slices_Concat_byte.L N) [⟨(Ty.sl (Ty.sl (Ty.int .u8))), a0⟩] = slices_Concat_byte N a0 := by kernel_rfl
theorem slices_Concat_byte.ok (N : Nat) : ∀ y, finOk (slices_Concat_byte.cx N) (slices_Concat_byte.ct N) y = true := fun y => by kernel_rfl
theorem slices_Concat_byte.meets (N : Nat) : Meets (slices_Concat_byte.cx N) 332 (slices_Concat_byte.ct N) :=
  meets_run (C := slices_Concat_byte.cx N) (ct := slices_Concat_byte.ct N) (Lp := slices_Concat_byte.L N) claws (ook_of (l := [(352, slices_Grow_byte.ct)]) rfl (all_cons (Meets.ctx (C := slices_Grow_byte.cx) (C' := slices_Concat_byte.cx N) rfl rfl rfl slices_Grow_byte.meets) (all_nil))) (xok_of (l := []) rfl (all_nil)) Proofs.Tryz.func332 (by kernel_rfl) rfl (lok_of (l := [(0, .plain slices_Concat_byte.sp0 [(Ty.sl (Ty.sl (Ty.int .u8))), (Ty.int .i64), (Ty.sl (Ty.sl (Ty.int .u8))), (Ty.int .i64), (Ty.int .i64)] (iterP (slices_Concat_byte.r0 N) N)), (2, .plain slices_Concat_byte.sp2 [(Ty.sl (Ty.int .u8)), (Ty.sl (Ty.sl (Ty.int .u8))), (Ty.int .i64), (Ty.int .i64)] (iterP (slices_Concat_byte.r2 N) N))]) rfl (all_cons (lok_plain (slices_Concat_byte.r0_eq N)) (all_cons (lok_plain (slices_Concat_byte.r2_eq N)) (all_nil)))) (slices_Concat_byte.ok N) (app_run (U := U) [(Ty.sl (Ty.sl (Ty.int .u8)))] (slices_Concat_byte N) (runF (slices_Concat_byte.cx N) Proofs.Tryz.f332 (slices_Concat_byte.ct N) (slices_Concat_byte.L N)) (slices_Concat_byte.eq N))

noncomputable def tagged_encoded (N : Nat) (a0 : Pointer) : Option ByteArray :=
  (tagged_big N a0.Kind 1).bind fun r1 => (tagged_big N 0 1).bind fun r2 => (tagged_big N a0.Authority 2).bind fun r3 => (tagged_big N a0.Address.Segment 6).bind fun r4 =>
    (tagged_big N a0.Address.Offset 6).bind fun r5 => (slices_Concat_byte N ([r1, r2, r3, r4, r5] : List (List Int))).bind fun r6 => some (bytesOf r6)
noncomputable def tagged_encoded.ct (N : Nat) : Ct U := { params := [.val Ty.Pointer], results := [Ty.str], outs := [], fresh := [], fn := app U [Ty.Pointer] (R := PT U [Ty.str]) (tagged_encoded N) }
noncomputable def tagged_encoded.cx (N : Nat) : Ctx U := mkCx [(332, slices_Concat_byte.ct N), (333, tagged_big.ct N)] [] [] [] [5, 6, 9, 13, 17, 18] [] [] []
noncomputable def tagged_encoded.L (N : Nat) : Nat → Option (Cut U (PT U [Ty.str])) := pick []
theorem tagged_encoded.eq (N : Nat) (a0 : Pointer) : runF (tagged_encoded.cx N) Proofs.Tryz.f282 (tagged_encoded.ct N) (tagged_encoded.L N) [⟨Ty.Pointer, a0⟩] = tagged_encoded N a0 := by kernel_rfl
theorem tagged_encoded.ok (N : Nat) : ∀ y, finOk (tagged_encoded.cx N) (tagged_encoded.ct N) y = true := fun y => by kernel_rfl
theorem tagged_encoded.meets (N : Nat) : Meets (tagged_encoded.cx N) 282 (tagged_encoded.ct N) :=
  meets_run (C := tagged_encoded.cx N) (ct := tagged_encoded.ct N) (Lp := tagged_encoded.L N) claws (ook_of (l := [(332, slices_Concat_byte.ct N), (333, tagged_big.ct N)]) rfl (all_cons (Meets.ctx (C := slices_Concat_byte.cx N) (C' := tagged_encoded.cx N) rfl rfl rfl (slices_Concat_byte.meets N)) (all_cons (Meets.ctx (C := tagged_big.cx N) (C' := tagged_encoded.cx N) rfl rfl rfl (tagged_big.meets N)) (all_nil)))) (xok_of (l := []) rfl (all_nil)) Proofs.Tryz.func282 (by kernel_rfl) rfl (lok_of (l := []) rfl (all_nil)) (tagged_encoded.ok N) (app_run (U := U) [Ty.Pointer] (tagged_encoded N) (runF (tagged_encoded.cx N) Proofs.Tryz.f282 (tagged_encoded.ct N) (tagged_encoded.L N)) (tagged_encoded.eq N))

noncomputable def tagged_StorePointer (N : Nat) (a0 : Storage) (a1 : Int) (a2 : Pointer) : Option (Storage × Int) :=
  (tagged_place N a0 a1).bind fun r1 => cond (r1 != 0) (some ((⟨(⟨#[]⟩ : ByteArray), []⟩ : Storage), r1)) ((tagged_CheckPointer a2).bind fun r2 => cond (r2 != 0)
    (some ((⟨(⟨#[]⟩ : ByteArray), []⟩ : Storage), r2)) ((tagged_encoded N a2).bind fun r3 => (tagged_put (⟨a0.Bytes, a0.Tags⟩ : Storage) a1 r3).bind fun r4 =>
    if 0 ≤ (IntKind.wrap .i64 (a1.tdiv 16)) then (if (IntKind.wrap .i64 (a1.tdiv 16)) < (r4.Tags.length : Int) then ((r4.Tags[(IntKind.wrap .i64 (a1.tdiv 16)).toNat]?).bind fun x5 =>
    some ((⟨r4.Bytes, (r4.Tags.set ((IntKind.wrap .i64 (a1.tdiv 16)).toNat) true)⟩ : Storage), 0)) else none) else none))
noncomputable def tagged_StorePointer.ct (N : Nat) : Ct U := { params := [.val Ty.Storage, .val (Ty.int .i64), .val Ty.Pointer], results := [Ty.Storage, (Ty.int .i64)], outs := [], fresh := [], fn := app U [Ty.Storage, (Ty.int .i64), Ty.Pointer] (R := PT U [Ty.Storage, (Ty.int .i64)]) (tagged_StorePointer N) }
noncomputable def tagged_StorePointer.cx (N : Nat) : Ctx U := mkCx [(136, tagged_CheckPointer.ct), (186, tagged_place.ct N), (281, tagged_put.ct), (282, tagged_encoded.ct N)] [] [] [] [27] [] [] []
noncomputable def tagged_StorePointer.L (N : Nat) : Nat → Option (Cut U (PT U [Ty.Storage, (Ty.int .i64)])) := pick []
theorem tagged_StorePointer.eq (N : Nat) (a0 : Storage) (a1 : Int) (a2 : Pointer) : runF (tagged_StorePointer.cx N) Proofs.Tryz.f217 (tagged_StorePointer.ct N) (tagged_StorePointer.L N) [⟨Ty.Storage, a0⟩, ⟨(Ty.int .i64), a1⟩, ⟨Ty.Pointer, a2⟩] = tagged_StorePointer N a0 a1 a2 := by kernel_rfl
theorem tagged_StorePointer.ok (N : Nat) : ∀ y, finOk (tagged_StorePointer.cx N) (tagged_StorePointer.ct N) y = true := fun y => by kernel_rfl
theorem tagged_StorePointer.meets (N : Nat) : Meets (tagged_StorePointer.cx N) 217 (tagged_StorePointer.ct N) :=
  meets_run (C := tagged_StorePointer.cx N) (ct := tagged_StorePointer.ct N) (Lp := tagged_StorePointer.L N) claws (ook_of (l := [(136, tagged_CheckPointer.ct), (186, tagged_place.ct N), (281, tagged_put.ct), (282, tagged_encoded.ct N)]) rfl (all_cons (Meets.ctx (C := tagged_CheckPointer.cx) (C' := tagged_StorePointer.cx N) rfl rfl rfl tagged_CheckPointer.meets) (all_cons (Meets.ctx (C := tagged_place.cx N) (C' := tagged_StorePointer.cx N) rfl rfl rfl (tagged_place.meets N)) (all_cons (Meets.ctx (C := tagged_put.cx) (C' := tagged_StorePointer.cx N) rfl rfl rfl tagged_put.meets) (all_cons (Meets.ctx (C := tagged_encoded.cx N) (C' := tagged_StorePointer.cx N) rfl rfl rfl (tagged_encoded.meets N)) (all_nil)))))) (xok_of (l := []) rfl (all_nil)) Proofs.Tryz.func217 (by kernel_rfl) rfl (lok_of (l := []) rfl (all_nil)) (tagged_StorePointer.ok N) (app_run (U := U) [Ty.Storage, (Ty.int .i64), Ty.Pointer] (tagged_StorePointer N) (runF (tagged_StorePointer.cx N) Proofs.Tryz.f217 (tagged_StorePointer.ct N) (tagged_StorePointer.L N)) (tagged_StorePointer.eq N))

noncomputable def hardware_whole.sp0 : Amx.Spec U := { slots := [(1, .ptr 1 0), (4, .val (Ty.int .i64)), (5, .val (Ty.int .i64))], boxes := [(1, Ty.Number, [])] }
noncomputable def hardware_whole.b0 (N : Nat) (s4 : Int) (s5 : Int) (b1 : Number) : Option (Stp (Int × Int × Number)) :=
  cond (decide (s5 < s4)) (some (.again (s4, (IntKind.wrap .i64 (s5 + 1)), (⟨(IntKind.wrap .i64 (b1.N.tdiv 10)), b1.Scale⟩ : Number)))) (some (.leave (s4, s5, b1)))
noncomputable def hardware_whole.r0 (N : Nat) (x : Int × Int × Number) : Option (Stp (Int × Int × Number)) := hardware_whole.b0 N x.1 x.2.1 x.2.2
noncomputable def hardware_whole (N : Nat) (a0 : Number) : Option Int :=
  (iterP (hardware_whole.r0 N) N (a0.Scale, 0, a0)).bind fun y1 => some y1.2.2.N
noncomputable def hardware_whole.ct (N : Nat) : Ct U := { params := [.val Ty.Number], results := [(Ty.int .i64)], outs := [], fresh := [], fn := app U [Ty.Number] (R := PT U [(Ty.int .i64)]) (hardware_whole N) }
noncomputable def hardware_whole.cx (N : Nat) : Ctx U := mkCx [] [] [] [] [] [] [] []
noncomputable def hardware_whole.L (N : Nat) : Nat → Option (Cut U (PT U [(Ty.int .i64)])) := pick [(0, .plain hardware_whole.sp0 [(Ty.int .i64), (Ty.int .i64), Ty.Number] (iterP (hardware_whole.r0 N) N))]
theorem hardware_whole.r0_eq (N : Nat) (x : PT U [(Ty.int .i64), (Ty.int .i64), Ty.Number]) : roundPF (hardware_whole.cx N) Proofs.Tryz.f220 (hardware_whole.L N) hardware_whole.sp0 [(Ty.int .i64), (Ty.int .i64), Ty.Number] 0 x = hardware_whole.r0 N x := by kernel_rfl
theorem hardware_whole.eq (N : Nat) (a0 : Number) : runF (hardware_whole.cx N) Proofs.Tryz.f220 (hardware_whole.ct N) (hardware_whole.L N) [⟨Ty.Number, a0⟩] = hardware_whole N a0 := by kernel_rfl
theorem hardware_whole.ok (N : Nat) : ∀ y, finOk (hardware_whole.cx N) (hardware_whole.ct N) y = true := fun y => by kernel_rfl
theorem hardware_whole.meets (N : Nat) : Meets (hardware_whole.cx N) 220 (hardware_whole.ct N) :=
  meets_run (C := hardware_whole.cx N) (ct := hardware_whole.ct N) (Lp := hardware_whole.L N) claws (ook_of (l := []) rfl (all_nil)) (xok_of (l := []) rfl (all_nil)) Proofs.Tryz.func220 (by kernel_rfl) rfl (lok_of (l := [(0, .plain hardware_whole.sp0 [(Ty.int .i64), (Ty.int .i64), Ty.Number] (iterP (hardware_whole.r0 N) N))]) rfl (all_cons (lok_plain (hardware_whole.r0_eq N)) (all_nil))) (hardware_whole.ok N) (app_run (U := U) [Ty.Number] (hardware_whole N) (runF (hardware_whole.cx N) Proofs.Tryz.f220 (hardware_whole.ct N) (hardware_whole.L N)) (hardware_whole.eq N))

noncomputable def hardware_machine_advance (N : Nat) (a0 : hardware_machine) (a1 : HwInstruction) : Option hardware_machine :=
  (hardware_machine_pointer N a0 a1.Pointer).bind fun r1 => cond (!r1.2.1) (some r1.2.2) ((idx r1.2.2.HwState.Registers a1.R).bind fun x2 => (hardware_whole N x2).bind fun r3 =>
    (hardware_in (IntKind.wrap .i64 (r1.1.Address.Offset + r3)) 0 16777215).bind fun r4 => (hardware_machine_raise r1.2.2 (!r4) 5).bind fun r5 =>
    cond r5.1 ((tagged_StorePointer N r5.2.HwState.Storage a1.Pointer (⟨r1.1.Kind, (⟨r1.1.Address.Segment, (IntKind.wrap .i64 (r1.1.Address.Offset + r3))⟩ : Address), r1.1.Authority⟩ : Pointer)).bind fun r6 =>
    some (⟨(⟨r5.2.HwState.Registers, r5.2.HwState.Condition, r6.1, r5.2.HwState.At, r5.2.HwState.Stack, r5.2.HwState.Lines, r5.2.HwState.Status, r5.2.HwState.Exception, r5.2.HwState.Marks, r5.2.HwState.Steps⟩ : HwState), r5.2.code, r5.2.raised⟩ : hardware_machine))
    (some r5.2))
noncomputable def hardware_machine_advance.ct (N : Nat) : Ct U := { params := [.ptr Ty.hardware_machine true [], .val Ty.HwInstruction], results := [], outs := [Ty.hardware_machine], fresh := [], fn := app U [Ty.hardware_machine, Ty.HwInstruction] (R := PT U [Ty.hardware_machine]) (hardware_machine_advance N) }
noncomputable def hardware_machine_advance.cx (N : Nat) : Ctx U := mkCx [(58, hardware_in.ct), (206, hardware_machine_raise.ct), (217, tagged_StorePointer.ct N), (218, hardware_machine_pointer.ct N), (220, hardware_whole.ct N)] [] [] [] [] [] [1000000] []
noncomputable def hardware_machine_advance.L (N : Nat) : Nat → Option (Cut U (PT U [Ty.hardware_machine])) := pick []
theorem hardware_machine_advance.eq (N : Nat) (a0 : hardware_machine) (a1 : HwInstruction) : runF (hardware_machine_advance.cx N) Proofs.Tryz.f219 (hardware_machine_advance.ct N) (hardware_machine_advance.L N) [⟨Ty.hardware_machine, a0⟩, ⟨Ty.HwInstruction, a1⟩] = hardware_machine_advance N a0 a1 := by kernel_rfl
theorem hardware_machine_advance.ok (N : Nat) : ∀ y, finOk (hardware_machine_advance.cx N) (hardware_machine_advance.ct N) y = true := fun y => by kernel_rfl
theorem hardware_machine_advance.meets (N : Nat) : Meets (hardware_machine_advance.cx N) 219 (hardware_machine_advance.ct N) :=
  meets_run (C := hardware_machine_advance.cx N) (ct := hardware_machine_advance.ct N) (Lp := hardware_machine_advance.L N) claws (ook_of (l := [(58, hardware_in.ct), (206, hardware_machine_raise.ct), (217, tagged_StorePointer.ct N), (218, hardware_machine_pointer.ct N), (220, hardware_whole.ct N)]) rfl (all_cons (Meets.ctx (C := hardware_in.cx) (C' := hardware_machine_advance.cx N) rfl rfl rfl hardware_in.meets) (all_cons (Meets.ctx (C := hardware_machine_raise.cx) (C' := hardware_machine_advance.cx N) rfl rfl rfl hardware_machine_raise.meets) (all_cons (Meets.ctx (C := tagged_StorePointer.cx N) (C' := hardware_machine_advance.cx N) rfl rfl rfl (tagged_StorePointer.meets N)) (all_cons (Meets.ctx (C := hardware_machine_pointer.cx N) (C' := hardware_machine_advance.cx N) rfl rfl rfl (hardware_machine_pointer.meets N)) (all_cons (Meets.ctx (C := hardware_whole.cx N) (C' := hardware_machine_advance.cx N) rfl rfl rfl (hardware_whole.meets N)) (all_nil))))))) (xok_of (l := []) rfl (all_nil)) Proofs.Tryz.func219 (by kernel_rfl) rfl (lok_of (l := []) rfl (all_nil)) (hardware_machine_advance.ok N) (app_run (U := U) [Ty.hardware_machine, Ty.HwInstruction] (hardware_machine_advance N) (runF (hardware_machine_advance.cx N) Proofs.Tryz.f219 (hardware_machine_advance.ct N) (hardware_machine_advance.L N)) (hardware_machine_advance.eq N))

noncomputable def hardware_machine_pointers (N : Nat) (a0 : hardware_machine) (a1 : HwInstruction) : Option hardware_machine :=
  cond (a1.Op == 14) ((hardware_size N a1.Type_).bind fun r1 => (hardware_machine_address N a0 a1.Place r1).bind fun r2 =>
    cond r2.2.1 ((tagged_StorePointer N r2.2.2.HwState.Storage a1.Pointer (⟨0, (⟨1, r2.1⟩ : Address), 0⟩ : Pointer)).bind fun r3 =>
    some (⟨(⟨r2.2.2.HwState.Registers, r2.2.2.HwState.Condition, r3.1, r2.2.2.HwState.At, r2.2.2.HwState.Stack, r2.2.2.HwState.Lines, r2.2.2.HwState.Status, r2.2.2.HwState.Exception, r2.2.2.HwState.Marks, r2.2.2.HwState.Steps⟩ : HwState), r2.2.2.code, r2.2.2.raised⟩ : hardware_machine))
    (some r2.2.2)) (cond (a1.Op == 15) ((hardware_machine_pointer N a0 a1.Source).bind fun r4 =>
    cond r4.2.1 ((tagged_StorePointer N r4.2.2.HwState.Storage a1.Pointer r4.1).bind fun r5 =>
    some (⟨(⟨r4.2.2.HwState.Registers, r4.2.2.HwState.Condition, r5.1, r4.2.2.HwState.At, r4.2.2.HwState.Stack, r4.2.2.HwState.Lines, r4.2.2.HwState.Status, r4.2.2.HwState.Exception, r4.2.2.HwState.Marks, r4.2.2.HwState.Steps⟩ : HwState), r4.2.2.code, r4.2.2.raised⟩ : hardware_machine))
    (some r4.2.2)) (cond (a1.Op == 16) ((hardware_machine_advance N a0 a1).bind fun r6 => some r6) (cond (a1.Op == 17) ((hardware_machine_pointer N a0 a1.Pointer).bind fun r7 =>
    some r7.2.2) (some a0))))
noncomputable def hardware_machine_pointers.ct (N : Nat) : Ct U := { params := [.ptr Ty.hardware_machine true [], .val Ty.HwInstruction], results := [], outs := [Ty.hardware_machine], fresh := [], fn := app U [Ty.hardware_machine, Ty.HwInstruction] (R := PT U [Ty.hardware_machine]) (hardware_machine_pointers N) }
noncomputable def hardware_machine_pointers.cx (N : Nat) : Ctx U := mkCx [(203, hardware_size.ct N), (216, hardware_machine_address.ct N), (217, tagged_StorePointer.ct N), (218, hardware_machine_pointer.ct N), (219, hardware_machine_advance.ct N)] [] [] [] [18] [] [1000000] []
noncomputable def hardware_machine_pointers.L (N : Nat) : Nat → Option (Cut U (PT U [Ty.hardware_machine])) := pick []
theorem hardware_machine_pointers.eq (N : Nat) (a0 : hardware_machine) (a1 : HwInstruction) : runF (hardware_machine_pointers.cx N) Proofs.Tryz.f154 (hardware_machine_pointers.ct N) (hardware_machine_pointers.L N) [⟨Ty.hardware_machine, a0⟩, ⟨Ty.HwInstruction, a1⟩] = hardware_machine_pointers N a0 a1 := by kernel_rfl
theorem hardware_machine_pointers.ok (N : Nat) : ∀ y, finOk (hardware_machine_pointers.cx N) (hardware_machine_pointers.ct N) y = true := fun y => by kernel_rfl
theorem hardware_machine_pointers.meets (N : Nat) : Meets (hardware_machine_pointers.cx N) 154 (hardware_machine_pointers.ct N) :=
  meets_run (C := hardware_machine_pointers.cx N) (ct := hardware_machine_pointers.ct N) (Lp := hardware_machine_pointers.L N) claws (ook_of (l := [(203, hardware_size.ct N), (216, hardware_machine_address.ct N), (217, tagged_StorePointer.ct N), (218, hardware_machine_pointer.ct N), (219, hardware_machine_advance.ct N)]) rfl (all_cons (Meets.ctx (C := hardware_size.cx N) (C' := hardware_machine_pointers.cx N) rfl rfl rfl (hardware_size.meets N)) (all_cons (Meets.ctx (C := hardware_machine_address.cx N) (C' := hardware_machine_pointers.cx N) rfl rfl rfl (hardware_machine_address.meets N)) (all_cons (Meets.ctx (C := tagged_StorePointer.cx N) (C' := hardware_machine_pointers.cx N) rfl rfl rfl (tagged_StorePointer.meets N)) (all_cons (Meets.ctx (C := hardware_machine_pointer.cx N) (C' := hardware_machine_pointers.cx N) rfl rfl rfl (hardware_machine_pointer.meets N)) (all_cons (Meets.ctx (C := hardware_machine_advance.cx N) (C' := hardware_machine_pointers.cx N) rfl rfl rfl (hardware_machine_advance.meets N)) (all_nil))))))) (xok_of (l := []) rfl (all_nil)) Proofs.Tryz.func154 (by kernel_rfl) rfl (lok_of (l := []) rfl (all_nil)) (hardware_machine_pointers.ok N) (app_run (U := U) [Ty.hardware_machine, Ty.HwInstruction] (hardware_machine_pointers N) (runF (hardware_machine_pointers.cx N) Proofs.Tryz.f154 (hardware_machine_pointers.ct N) (hardware_machine_pointers.L N)) (hardware_machine_pointers.eq N))

noncomputable def hardware_machine_signal (N : Nat) (a0 : hardware_machine) (a1 : HwInstruction) : Option hardware_machine :=
  (idx a0.HwState.Registers a1.R).bind fun x1 => (hardware_whole N x1).bind fun r2 => (hardware_in r2 100 999).bind fun r3 => cond (!r3)
    ((hardware_machine_raise a0 true 2).bind fun r4 => some r4.2) ((hardware_machine_raise a0 true r2).bind fun r5 => some r5.2)
noncomputable def hardware_machine_signal.ct (N : Nat) : Ct U := { params := [.ptr Ty.hardware_machine true [], .val Ty.HwInstruction], results := [], outs := [Ty.hardware_machine], fresh := [], fn := app U [Ty.hardware_machine, Ty.HwInstruction] (R := PT U [Ty.hardware_machine]) (hardware_machine_signal N) }
noncomputable def hardware_machine_signal.cx (N : Nat) : Ctx U := mkCx [(58, hardware_in.ct), (206, hardware_machine_raise.ct), (220, hardware_whole.ct N)] [] [] [] [] [] [1000000] []
noncomputable def hardware_machine_signal.L (N : Nat) : Nat → Option (Cut U (PT U [Ty.hardware_machine])) := pick []
theorem hardware_machine_signal.eq (N : Nat) (a0 : hardware_machine) (a1 : HwInstruction) : runF (hardware_machine_signal.cx N) Proofs.Tryz.f155 (hardware_machine_signal.ct N) (hardware_machine_signal.L N) [⟨Ty.hardware_machine, a0⟩, ⟨Ty.HwInstruction, a1⟩] = hardware_machine_signal N a0 a1 := by kernel_rfl
theorem hardware_machine_signal.ok (N : Nat) : ∀ y, finOk (hardware_machine_signal.cx N) (hardware_machine_signal.ct N) y = true := fun y => by kernel_rfl
theorem hardware_machine_signal.meets (N : Nat) : Meets (hardware_machine_signal.cx N) 155 (hardware_machine_signal.ct N) :=
  meets_run (C := hardware_machine_signal.cx N) (ct := hardware_machine_signal.ct N) (Lp := hardware_machine_signal.L N) claws (ook_of (l := [(58, hardware_in.ct), (206, hardware_machine_raise.ct), (220, hardware_whole.ct N)]) rfl (all_cons (Meets.ctx (C := hardware_in.cx) (C' := hardware_machine_signal.cx N) rfl rfl rfl hardware_in.meets) (all_cons (Meets.ctx (C := hardware_machine_raise.cx) (C' := hardware_machine_signal.cx N) rfl rfl rfl hardware_machine_raise.meets) (all_cons (Meets.ctx (C := hardware_whole.cx N) (C' := hardware_machine_signal.cx N) rfl rfl rfl (hardware_whole.meets N)) (all_nil))))) (xok_of (l := []) rfl (all_nil)) Proofs.Tryz.func155 (by kernel_rfl) rfl (lok_of (l := []) rfl (all_nil)) (hardware_machine_signal.ok N) (app_run (U := U) [Ty.hardware_machine, Ty.HwInstruction] (hardware_machine_signal N) (runF (hardware_machine_signal.cx N) Proofs.Tryz.f155 (hardware_machine_signal.ct N) (hardware_machine_signal.L N)) (hardware_machine_signal.eq N))

noncomputable def x283 : Ct U := { params := [.val (Ty.int .i64)], results := [Ty.str], outs := [], fresh := [], fn := app U [(Ty.int .i64)] (R := PT U [Ty.str]) (xItoa) }
theorem x283.meets : Meets (mkCx [] [] [] [] [] [] [] []) 283 x283 :=
  meets_calls ⟨_, Proofs.Tryz.func283, rfl, by kernel_rfl⟩ (t := Ty.str) rfl rfl rfl rfl fun ds y hy E0 h0 ha μ H w us hA hm hG => by
    obtain ⟨n, rfl, hx⟩ := app1 hy
    unfold xItoa at hx
    split at hx
    · rename_i hn
      cases hx
      have hE : some ([.sc (.int .i64 n)], []) = some (E0, h0) := ha
      cases hE
      cases hA with
      | cons h1 h2 =>
        cases h2
        have hu := h1.int
        subst hu
        have ht := tab_of hG hm (g := 3) (name := "internal/strconv.uint64pow10") (t := Ty.int .u64) (xs := glob3) (k := .u64) (zs := Lib.pow10Tab) rfl (by kernel_rfl) (fun i x hi => ⟨x, hi, rfl⟩) rfl rfl
        refine ⟨_, rfl, (Proofs.Tryz.strconv_Itoa n hn.1 hn.2 w ht).mono fun e w' hh => ?_⟩
        obtain ⟨rfl, k, os, rfl⟩ := hh
        exact ⟨_, rfl, wd_grow w k os, .sc _⟩
    · cases hx

noncomputable def numeric_FormatNumber (a0 : Number) : Option (ByteArray × Int) :=
  (numeric_CheckNumber a0).bind fun r1 => cond (r1 != 0) (some ((⟨#[]⟩ : ByteArray), r1))
    ((xItoa (if (IntKind.wrap .i64 (0 - a0.N)) > a0.N then (IntKind.wrap .i64 (0 - a0.N)) else a0.N)).bind fun r2 => cond (decide ((r2.size : Int) ≤ a0.Scale))
    ((xRepeat (⟨#[48]⟩ : ByteArray) (IntKind.wrap .i64 ((IntKind.wrap .i64 (a0.Scale + 1)) - (r2.size : Int)))).bind fun r3 =>
    if ((r3.size + r2.size : Nat) : Int) > IntKind.i64.max then none else cond (decide (a0.Scale > 0))
    (if 0 ≤ (IntKind.wrap .i64 (((r3 ++ r2).size : Int) - a0.Scale)) ∧ (IntKind.wrap .i64 (((r3 ++ r2).size : Int) - a0.Scale)) ≤ ((r3 ++ r2).size : Int) then (if 0 ≤ (0 : Int) ∧ (0 : Int) ≤ (IntKind.wrap .i64 (((r3 ++ r2).size : Int) - a0.Scale)) then (if ((((r3 ++ r2).extract (0 : Int).toNat (IntKind.wrap .i64 (((r3 ++ r2).size : Int) - a0.Scale)).toNat).size + (⟨#[46]⟩ : ByteArray).size : Nat) : Int) > IntKind.i64.max then none else if 0 ≤ (IntKind.wrap .i64 (((r3 ++ r2).size : Int) - a0.Scale)) ∧ (IntKind.wrap .i64 (((r3 ++ r2).size : Int) - a0.Scale)) ≤ ((r3 ++ r2).size : Int) then (if (((((r3 ++ r2).extract (0 : Int).toNat (IntKind.wrap .i64 (((r3 ++ r2).size : Int) - a0.Scale)).toNat) ++ (⟨#[46]⟩ : ByteArray)).size + ((r3 ++ r2).extract (IntKind.wrap .i64 (((r3 ++ r2).size : Int) - a0.Scale)).toNat (r3 ++ r2).size).size : Nat) : Int) > IntKind.i64.max then none else cond (decide (a0.N < 0))
    (if (((⟨#[45]⟩ : ByteArray).size + ((((r3 ++ r2).extract (0 : Int).toNat (IntKind.wrap .i64 (((r3 ++ r2).size : Int) - a0.Scale)).toNat) ++ (⟨#[46]⟩ : ByteArray)) ++ ((r3 ++ r2).extract (IntKind.wrap .i64 (((r3 ++ r2).size : Int) - a0.Scale)).toNat (r3 ++ r2).size)).size : Nat) : Int) > IntKind.i64.max then none else some (((⟨#[45]⟩ : ByteArray) ++ ((((r3 ++ r2).extract (0 : Int).toNat (IntKind.wrap .i64 (((r3 ++ r2).size : Int) - a0.Scale)).toNat) ++ (⟨#[46]⟩ : ByteArray)) ++ ((r3 ++ r2).extract (IntKind.wrap .i64 (((r3 ++ r2).size : Int) - a0.Scale)).toNat (r3 ++ r2).size))), 0))
    (some (((((r3 ++ r2).extract (0 : Int).toNat (IntKind.wrap .i64 (((r3 ++ r2).size : Int) - a0.Scale)).toNat) ++ (⟨#[46]⟩ : ByteArray)) ++ ((r3 ++ r2).extract (IntKind.wrap .i64 (((r3 ++ r2).size : Int) - a0.Scale)).toNat (r3 ++ r2).size)), 0))) else none) else none) else none)
    (cond (decide (a0.N < 0)) (if (((⟨#[45]⟩ : ByteArray).size + (r3 ++ r2).size : Nat) : Int) > IntKind.i64.max then none else some (((⟨#[45]⟩ : ByteArray) ++ (r3 ++ r2)), 0))
    (some ((r3 ++ r2), 0)))) (cond (decide (a0.Scale > 0))
    (if 0 ≤ (IntKind.wrap .i64 ((r2.size : Int) - a0.Scale)) ∧ (IntKind.wrap .i64 ((r2.size : Int) - a0.Scale)) ≤ (r2.size : Int) then (if 0 ≤ (0 : Int) ∧ (0 : Int) ≤ (IntKind.wrap .i64 ((r2.size : Int) - a0.Scale)) then (if (((r2.extract (0 : Int).toNat (IntKind.wrap .i64 ((r2.size : Int) - a0.Scale)).toNat).size + (⟨#[46]⟩ : ByteArray).size : Nat) : Int) > IntKind.i64.max then none else if 0 ≤ (IntKind.wrap .i64 ((r2.size : Int) - a0.Scale)) ∧ (IntKind.wrap .i64 ((r2.size : Int) - a0.Scale)) ≤ (r2.size : Int) then (if ((((r2.extract (0 : Int).toNat (IntKind.wrap .i64 ((r2.size : Int) - a0.Scale)).toNat) ++ (⟨#[46]⟩ : ByteArray)).size + (r2.extract (IntKind.wrap .i64 ((r2.size : Int) - a0.Scale)).toNat r2.size).size : Nat) : Int) > IntKind.i64.max then none else cond (decide (a0.N < 0))
    (if (((⟨#[45]⟩ : ByteArray).size + (((r2.extract (0 : Int).toNat (IntKind.wrap .i64 ((r2.size : Int) - a0.Scale)).toNat) ++ (⟨#[46]⟩ : ByteArray)) ++ (r2.extract (IntKind.wrap .i64 ((r2.size : Int) - a0.Scale)).toNat r2.size)).size : Nat) : Int) > IntKind.i64.max then none else some (((⟨#[45]⟩ : ByteArray) ++ (((r2.extract (0 : Int).toNat (IntKind.wrap .i64 ((r2.size : Int) - a0.Scale)).toNat) ++ (⟨#[46]⟩ : ByteArray)) ++ (r2.extract (IntKind.wrap .i64 ((r2.size : Int) - a0.Scale)).toNat r2.size))), 0))
    (some ((((r2.extract (0 : Int).toNat (IntKind.wrap .i64 ((r2.size : Int) - a0.Scale)).toNat) ++ (⟨#[46]⟩ : ByteArray)) ++ (r2.extract (IntKind.wrap .i64 ((r2.size : Int) - a0.Scale)).toNat r2.size)), 0))) else none) else none) else none)
    (cond (decide (a0.N < 0)) (if (((⟨#[45]⟩ : ByteArray).size + r2.size : Nat) : Int) > IntKind.i64.max then none else some (((⟨#[45]⟩ : ByteArray) ++ r2), 0)) (some (r2, 0)))))
noncomputable def numeric_FormatNumber.ct : Ct U := { params := [.val Ty.Number], results := [Ty.str, (Ty.int .i64)], outs := [], fresh := [], fn := app U [Ty.Number] (R := PT U [Ty.str, (Ty.int .i64)]) (numeric_FormatNumber) }
noncomputable def numeric_FormatNumber.cx : Ctx U := mkCx [(78, numeric_CheckNumber.ct), (279, x279), (283, x283)] [] [] [] [16] [] [] []
noncomputable def numeric_FormatNumber.L : Nat → Option (Cut U (PT U [Ty.str, (Ty.int .i64)])) := pick []
theorem numeric_FormatNumber.eq (a0 : Number) : runF (numeric_FormatNumber.cx) Proofs.Tryz.f221 (numeric_FormatNumber.ct) (numeric_FormatNumber.L) [⟨Ty.Number, a0⟩] = numeric_FormatNumber a0 := by kernel_rfl
theorem numeric_FormatNumber.ok : ∀ y, finOk (numeric_FormatNumber.cx) (numeric_FormatNumber.ct) y = true := fun y => by kernel_rfl
theorem numeric_FormatNumber.meets : Meets (numeric_FormatNumber.cx) 221 (numeric_FormatNumber.ct) :=
  meets_run (C := numeric_FormatNumber.cx) (ct := numeric_FormatNumber.ct) (Lp := numeric_FormatNumber.L) claws (ook_of (l := [(78, numeric_CheckNumber.ct), (279, x279), (283, x283)]) rfl (all_cons (Meets.ctx (C := numeric_CheckNumber.cx) (C' := numeric_FormatNumber.cx) rfl rfl rfl numeric_CheckNumber.meets) (all_cons (Meets.ctx (C := mkCx [] [] [] [] [] [] [] []) (C' := numeric_FormatNumber.cx) rfl rfl rfl x279.meets) (all_cons (Meets.ctx (C := mkCx [] [] [] [] [] [] [] []) (C' := numeric_FormatNumber.cx) rfl rfl rfl x283.meets) (all_nil))))) (xok_of (l := []) rfl (all_nil)) Proofs.Tryz.func221 (by kernel_rfl) rfl (lok_of (l := []) rfl (all_nil)) (numeric_FormatNumber.ok) (app_run (U := U) [Ty.Number] (numeric_FormatNumber) (runF (numeric_FormatNumber.cx) Proofs.Tryz.f221 (numeric_FormatNumber.ct) (numeric_FormatNumber.L)) numeric_FormatNumber.eq)

noncomputable def x222 : Ct U := { params := [.val (Ty.sl Ty.str)], results := [(Ty.sl Ty.str)], outs := [], fresh := [0], fn := app U [(Ty.sl Ty.str)] (R := PT U [(Ty.sl Ty.str)]) (xClone 16) }
theorem x222.meets : Meets (mkCx [] [] [] [] [] [] [] []) 222 x222 :=
  meets_clone claws (ook_of (l := []) rfl all_nil) (xok_of (l := []) rfl all_nil) (Lp := pick []) Proofs.Tryz.func222 (by kernel_rfl) (lok_of (l := []) rfl all_nil) (fun y => by kernel_rfl) (e := 9) (t := Ty.str) rfl rfl rfl rfl rfl rfl rfl (by kernel_rfl) rfl rfl rfl rfl rfl rfl (fun xs => by kernel_rfl) fun ds y h => by
    obtain ⟨xs, rfl, hx⟩ := app1 h
    refine ⟨xs, rfl, fun b hb => ?_⟩
    cases b with
    | true =>
      have := hb rfl
      subst this
      exact Eq.trans (by kernel_rfl) hx
    | false => exact Eq.trans (b := cond (Nat.ble ((0 + xs.length) * 16) room) (some xs) none) (by kernel_rfl) (by rw [Nat.zero_add]; exact hx)

noncomputable def hardware_machine_print (N : Nat) (a0 : hardware_machine) (a1 : HwInstruction) : Option hardware_machine :=
  cond (a1.Op == 22) ((idx a0.HwState.Registers a1.R).bind fun x1 => (numeric_FormatNumber x1).bind fun r2 => cond ((a0.HwState.Lines.length : Int) == 40)
    (some (⟨(⟨a0.HwState.Registers, a0.HwState.Condition, a0.HwState.Storage, a0.HwState.At, a0.HwState.Stack, a0.HwState.Lines, 3, a0.HwState.Exception, a0.HwState.Marks, a0.HwState.Steps⟩ : HwState), a0.code, a0.raised⟩ : hardware_machine))
    ((xClone 16 a0.HwState.Lines).bind fun r3 => cond (Nat.ble ((r3.length + ([r2.1] : List ByteArray).length) * 16) room)
    (some (⟨(⟨a0.HwState.Registers, a0.HwState.Condition, a0.HwState.Storage, a0.HwState.At, a0.HwState.Stack, (r3 ++ ([r2.1] : List ByteArray)), a0.HwState.Status, a0.HwState.Exception, a0.HwState.Marks, a0.HwState.Steps⟩ : HwState), a0.code, a0.raised⟩ : hardware_machine)) none))
    (cond (a1.Op == 23) ((hardware_machine_bytes N a0 a1.Place a1.Type_).bind fun r4 => cond (!r4.2.1) (some r4.2.2) (cond ((r4.2.2.HwState.Lines.length : Int) == 40)
    (some (⟨(⟨r4.2.2.HwState.Registers, r4.2.2.HwState.Condition, r4.2.2.HwState.Storage, r4.2.2.HwState.At, r4.2.2.HwState.Stack, r4.2.2.HwState.Lines, 3, r4.2.2.HwState.Exception, r4.2.2.HwState.Marks, r4.2.2.HwState.Steps⟩ : HwState), r4.2.2.code, r4.2.2.raised⟩ : hardware_machine))
    ((xClone 16 r4.2.2.HwState.Lines).bind fun r5 => cond (Nat.ble ((r5.length + ([r4.1] : List ByteArray).length) * 16) room)
    (some (⟨(⟨r4.2.2.HwState.Registers, r4.2.2.HwState.Condition, r4.2.2.HwState.Storage, r4.2.2.HwState.At, r4.2.2.HwState.Stack, (r5 ++ ([r4.1] : List ByteArray)), r4.2.2.HwState.Status, r4.2.2.HwState.Exception, r4.2.2.HwState.Marks, r4.2.2.HwState.Steps⟩ : HwState), r4.2.2.code, r4.2.2.raised⟩ : hardware_machine)) none)))
    (cond ((a0.HwState.Lines.length : Int) == 40)
    (some (⟨(⟨a0.HwState.Registers, a0.HwState.Condition, a0.HwState.Storage, a0.HwState.At, a0.HwState.Stack, a0.HwState.Lines, 3, a0.HwState.Exception, a0.HwState.Marks, a0.HwState.Steps⟩ : HwState), a0.code, a0.raised⟩ : hardware_machine))
    ((xClone 16 a0.HwState.Lines).bind fun r6 => cond (Nat.ble ((r6.length + ([a1.Text] : List ByteArray).length) * 16) room)
    (some (⟨(⟨a0.HwState.Registers, a0.HwState.Condition, a0.HwState.Storage, a0.HwState.At, a0.HwState.Stack, (r6 ++ ([a1.Text] : List ByteArray)), a0.HwState.Status, a0.HwState.Exception, a0.HwState.Marks, a0.HwState.Steps⟩ : HwState), a0.code, a0.raised⟩ : hardware_machine)) none)))
noncomputable def hardware_machine_print.ct (N : Nat) : Ct U := { params := [.ptr Ty.hardware_machine true [], .val Ty.HwInstruction], results := [], outs := [Ty.hardware_machine], fresh := [], fn := app U [Ty.hardware_machine, Ty.HwInstruction] (R := PT U [Ty.hardware_machine]) (hardware_machine_print N) }
noncomputable def hardware_machine_print.cx (N : Nat) : Ctx U := mkCx [(204, hardware_machine_bytes.ct N), (221, numeric_FormatNumber.ct), (222, x222)] [] [] [] [44] [] [1000000] []
noncomputable def hardware_machine_print.L (N : Nat) : Nat → Option (Cut U (PT U [Ty.hardware_machine])) := pick []
theorem hardware_machine_print.eq (N : Nat) (a0 : hardware_machine) (a1 : HwInstruction) : runF (hardware_machine_print.cx N) Proofs.Tryz.f156 (hardware_machine_print.ct N) (hardware_machine_print.L N) [⟨Ty.hardware_machine, a0⟩, ⟨Ty.HwInstruction, a1⟩] = hardware_machine_print N a0 a1 := by kernel_rfl
theorem hardware_machine_print.ok (N : Nat) : ∀ y, finOk (hardware_machine_print.cx N) (hardware_machine_print.ct N) y = true := fun y => by kernel_rfl
theorem hardware_machine_print.meets (N : Nat) : Meets (hardware_machine_print.cx N) 156 (hardware_machine_print.ct N) :=
  meets_run (C := hardware_machine_print.cx N) (ct := hardware_machine_print.ct N) (Lp := hardware_machine_print.L N) claws (ook_of (l := [(204, hardware_machine_bytes.ct N), (221, numeric_FormatNumber.ct), (222, x222)]) rfl (all_cons (Meets.ctx (C := hardware_machine_bytes.cx N) (C' := hardware_machine_print.cx N) rfl rfl rfl (hardware_machine_bytes.meets N)) (all_cons (Meets.ctx (C := numeric_FormatNumber.cx) (C' := hardware_machine_print.cx N) rfl rfl rfl numeric_FormatNumber.meets) (all_cons (Meets.ctx (C := mkCx [] [] [] [] [] [] [] []) (C' := hardware_machine_print.cx N) rfl rfl rfl x222.meets) (all_nil))))) (xok_of (l := []) rfl (all_nil)) Proofs.Tryz.func156 (by kernel_rfl) rfl (lok_of (l := []) rfl (all_nil)) (hardware_machine_print.ok N) (app_run (U := U) [Ty.hardware_machine, Ty.HwInstruction] (hardware_machine_print N) (runF (hardware_machine_print.cx N) Proofs.Tryz.f156 (hardware_machine_print.ct N) (hardware_machine_print.L N)) (hardware_machine_print.eq N))

noncomputable def hardware_machine_mark (a0 : hardware_machine) : Option hardware_machine :=
  cond (a0.HwState.Marks == 300)
    (some (⟨(⟨a0.HwState.Registers, a0.HwState.Condition, a0.HwState.Storage, a0.HwState.At, a0.HwState.Stack, a0.HwState.Lines, 3, a0.HwState.Exception, a0.HwState.Marks, a0.HwState.Steps⟩ : HwState), a0.code, a0.raised⟩ : hardware_machine))
    (some (⟨(⟨a0.HwState.Registers, a0.HwState.Condition, a0.HwState.Storage, a0.HwState.At, a0.HwState.Stack, a0.HwState.Lines, a0.HwState.Status, a0.HwState.Exception, (IntKind.wrap .i64 (a0.HwState.Marks + 1)), a0.HwState.Steps⟩ : HwState), a0.code, a0.raised⟩ : hardware_machine))
noncomputable def hardware_machine_mark.ct : Ct U := { params := [.ptr Ty.hardware_machine true []], results := [], outs := [Ty.hardware_machine], fresh := [], fn := app U [Ty.hardware_machine] (R := PT U [Ty.hardware_machine]) (hardware_machine_mark) }
noncomputable def hardware_machine_mark.cx : Ctx U := mkCx [] [] [] [] [] [] [1000000] []
noncomputable def hardware_machine_mark.L : Nat → Option (Cut U (PT U [Ty.hardware_machine])) := pick []
theorem hardware_machine_mark.eq (a0 : hardware_machine) : runF (hardware_machine_mark.cx) Proofs.Tryz.f157 (hardware_machine_mark.ct) (hardware_machine_mark.L) [⟨Ty.hardware_machine, a0⟩] = hardware_machine_mark a0 := by kernel_rfl
theorem hardware_machine_mark.ok : ∀ y, finOk (hardware_machine_mark.cx) (hardware_machine_mark.ct) y = true := fun y => by kernel_rfl
theorem hardware_machine_mark.meets : Meets (hardware_machine_mark.cx) 157 (hardware_machine_mark.ct) :=
  meets_run (C := hardware_machine_mark.cx) (ct := hardware_machine_mark.ct) (Lp := hardware_machine_mark.L) claws (ook_of (l := []) rfl (all_nil)) (xok_of (l := []) rfl (all_nil)) Proofs.Tryz.func157 (by kernel_rfl) rfl (lok_of (l := []) rfl (all_nil)) (hardware_machine_mark.ok) (app_run (U := U) [Ty.hardware_machine] (hardware_machine_mark) (runF (hardware_machine_mark.cx) Proofs.Tryz.f157 (hardware_machine_mark.ct) (hardware_machine_mark.L)) hardware_machine_mark.eq)

noncomputable def x160 : Ct U := { params := [.val (Ty.sl (Ty.int .i64))], results := [(Ty.sl (Ty.int .i64))], outs := [], fresh := [0], fn := app U [(Ty.sl (Ty.int .i64))] (R := PT U [(Ty.sl (Ty.int .i64))]) (xClone 8) }
theorem x160.meets : Meets (mkCx [] [] [] [] [] [] [] []) 160 x160 :=
  meets_clone claws (ook_of (l := []) rfl all_nil) (xok_of (l := []) rfl all_nil) (Lp := pick []) Proofs.Tryz.func160 (by kernel_rfl) (lok_of (l := []) rfl all_nil) (fun y => by kernel_rfl) (e := 3) (t := (Ty.int .i64)) rfl rfl rfl rfl rfl rfl rfl (by kernel_rfl) rfl rfl rfl rfl rfl rfl (fun xs => by kernel_rfl) fun ds y h => by
    obtain ⟨xs, rfl, hx⟩ := app1 h
    refine ⟨xs, rfl, fun b hb => ?_⟩
    cases b with
    | true =>
      have := hb rfl
      subst this
      exact Eq.trans (by kernel_rfl) hx
    | false => exact Eq.trans (b := cond (Nat.ble ((0 + xs.length) * 8) room) (some xs) none) (by kernel_rfl) (by rw [Nat.zero_add]; exact hx)

noncomputable def hardware_machine_call (a0 : hardware_machine) (a1 : Int) : Option (Int × hardware_machine) :=
  (hardware_machine_raise a0 (decide ((a0.HwState.Stack.length : Int) ≥ 6)) 6).bind fun r1 => cond r1.1 ((xClone 8 r1.2.HwState.Stack).bind fun r2 =>
    cond (Nat.ble ((r2.length + ([r1.2.HwState.At] : List Int).length) * 8) room)
    (some (a1, (⟨(⟨r1.2.HwState.Registers, r1.2.HwState.Condition, r1.2.HwState.Storage, r1.2.HwState.At, (r2 ++ ([r1.2.HwState.At] : List Int)), r1.2.HwState.Lines, r1.2.HwState.Status, r1.2.HwState.Exception, r1.2.HwState.Marks, r1.2.HwState.Steps⟩ : HwState), r1.2.code, r1.2.raised⟩ : hardware_machine))) none)
    (some (a1, r1.2))
noncomputable def hardware_machine_call.ct : Ct U := { params := [.ptr Ty.hardware_machine true [], .val (Ty.int .i64)], results := [(Ty.int .i64)], outs := [Ty.hardware_machine], fresh := [], fn := app U [Ty.hardware_machine, (Ty.int .i64)] (R := PT U [(Ty.int .i64), Ty.hardware_machine]) (hardware_machine_call) }
noncomputable def hardware_machine_call.cx : Ctx U := mkCx [(160, x160), (206, hardware_machine_raise.ct)] [] [] [] [26] [] [1000000] []
noncomputable def hardware_machine_call.L : Nat → Option (Cut U (PT U [(Ty.int .i64), Ty.hardware_machine])) := pick []
theorem hardware_machine_call.eq (a0 : hardware_machine) (a1 : Int) : runF (hardware_machine_call.cx) Proofs.Tryz.f223 (hardware_machine_call.ct) (hardware_machine_call.L) [⟨Ty.hardware_machine, a0⟩, ⟨(Ty.int .i64), a1⟩] = hardware_machine_call a0 a1 := by kernel_rfl
theorem hardware_machine_call.ok : ∀ y, finOk (hardware_machine_call.cx) (hardware_machine_call.ct) y = true := fun y => by kernel_rfl
theorem hardware_machine_call.meets : Meets (hardware_machine_call.cx) 223 (hardware_machine_call.ct) :=
  meets_run (C := hardware_machine_call.cx) (ct := hardware_machine_call.ct) (Lp := hardware_machine_call.L) claws (ook_of (l := [(160, x160), (206, hardware_machine_raise.ct)]) rfl (all_cons (Meets.ctx (C := mkCx [] [] [] [] [] [] [] []) (C' := hardware_machine_call.cx) rfl rfl rfl x160.meets) (all_cons (Meets.ctx (C := hardware_machine_raise.cx) (C' := hardware_machine_call.cx) rfl rfl rfl hardware_machine_raise.meets) (all_nil)))) (xok_of (l := []) rfl (all_nil)) Proofs.Tryz.func223 (by kernel_rfl) rfl (lok_of (l := []) rfl (all_nil)) (hardware_machine_call.ok) (app_run (U := U) [Ty.hardware_machine, (Ty.int .i64)] (hardware_machine_call) (runF (hardware_machine_call.cx) Proofs.Tryz.f223 (hardware_machine_call.ct) (hardware_machine_call.L)) hardware_machine_call.eq)

noncomputable def hardware_machine_back (a0 : hardware_machine) : Option (Int × hardware_machine) :=
  cond (decide ((IntKind.wrap .i64 ((a0.HwState.Stack.length : Int) - 1)) < 0))
    (some (a0.HwState.At, (⟨(⟨a0.HwState.Registers, a0.HwState.Condition, a0.HwState.Storage, a0.HwState.At, a0.HwState.Stack, a0.HwState.Lines, 1, a0.HwState.Exception, a0.HwState.Marks, a0.HwState.Steps⟩ : HwState), a0.code, a0.raised⟩ : hardware_machine)))
    ((idx a0.HwState.Stack (IntKind.wrap .i64 ((a0.HwState.Stack.length : Int) - 1))).bind fun x1 =>
    if 0 ≤ (IntKind.wrap .i64 ((a0.HwState.Stack.length : Int) - 1)) ∧ (IntKind.wrap .i64 ((a0.HwState.Stack.length : Int) - 1)) ≤ (a0.HwState.Stack.length : Int) then (if 0 ≤ (0 : Int) ∧ (0 : Int) ≤ (IntKind.wrap .i64 ((a0.HwState.Stack.length : Int) - 1)) then ((xClone 8 ((a0.HwState.Stack.take (IntKind.wrap .i64 ((a0.HwState.Stack.length : Int) - 1)).toNat).drop (0 : Int).toNat)).bind fun r2 =>
    some ((IntKind.wrap .i64 (x1 + 1)), (⟨(⟨a0.HwState.Registers, a0.HwState.Condition, a0.HwState.Storage, a0.HwState.At, r2, a0.HwState.Lines, a0.HwState.Status, a0.HwState.Exception, a0.HwState.Marks, a0.HwState.Steps⟩ : HwState), a0.code, a0.raised⟩ : hardware_machine))) else none) else none)
noncomputable def hardware_machine_back.ct : Ct U := { params := [.ptr Ty.hardware_machine true []], results := [(Ty.int .i64)], outs := [Ty.hardware_machine], fresh := [], fn := app U [Ty.hardware_machine] (R := PT U [(Ty.int .i64), Ty.hardware_machine]) (hardware_machine_back) }
noncomputable def hardware_machine_back.cx : Ctx U := mkCx [(160, x160)] [] [] [] [] [] [1000000] []
noncomputable def hardware_machine_back.L : Nat → Option (Cut U (PT U [(Ty.int .i64), Ty.hardware_machine])) := pick []
theorem hardware_machine_back.eq (a0 : hardware_machine) : runF (hardware_machine_back.cx) Proofs.Tryz.f224 (hardware_machine_back.ct) (hardware_machine_back.L) [⟨Ty.hardware_machine, a0⟩] = hardware_machine_back a0 := by kernel_rfl
theorem hardware_machine_back.ok : ∀ y, finOk (hardware_machine_back.cx) (hardware_machine_back.ct) y = true := fun y => by kernel_rfl
theorem hardware_machine_back.meets : Meets (hardware_machine_back.cx) 224 (hardware_machine_back.ct) :=
  meets_run (C := hardware_machine_back.cx) (ct := hardware_machine_back.ct) (Lp := hardware_machine_back.L) claws (ook_of (l := [(160, x160)]) rfl (all_cons (Meets.ctx (C := mkCx [] [] [] [] [] [] [] []) (C' := hardware_machine_back.cx) rfl rfl rfl x160.meets) (all_nil))) (xok_of (l := []) rfl (all_nil)) Proofs.Tryz.func224 (by kernel_rfl) rfl (lok_of (l := []) rfl (all_nil)) (hardware_machine_back.ok) (app_run (U := U) [Ty.hardware_machine] (hardware_machine_back) (runF (hardware_machine_back.cx) Proofs.Tryz.f224 (hardware_machine_back.ct) (hardware_machine_back.L)) hardware_machine_back.eq)

noncomputable def hardware_machine_jump (N : Nat) (a0 : hardware_machine) (a1 : HwInstruction) : Option (Int × hardware_machine) :=
  cond (a1.Op == 8) (some (a1.Target, a0)) (cond (a1.Op == 18) ((hardware_machine_call a0 a1.Target).bind fun r1 => some (r1.1, r1.2)) (cond (a1.Op == 19)
    ((hardware_machine_back a0).bind fun r2 => some (r2.1, r2.2)) (cond (a1.Op == 6) (cond ((andI .i64 a0.HwState.Condition a1.Mask) != 0) (some (a1.Target, a0))
    (some ((IntKind.wrap .i64 (a0.HwState.At + 1)), a0))) (cond (a1.Op == 7) ((hardware_machine_registersOrder N a0 a1).bind fun r3 => cond ((andI .i64 r3 a1.Mask) != 0)
    (some (a1.Target, a0)) (some ((IntKind.wrap .i64 (a0.HwState.At + 1)), a0))) (some ((IntKind.wrap .i64 (a0.HwState.At + 1)), a0))))))
noncomputable def hardware_machine_jump.ct (N : Nat) : Ct U := { params := [.ptr Ty.hardware_machine true [], .val Ty.HwInstruction], results := [(Ty.int .i64)], outs := [Ty.hardware_machine], fresh := [], fn := app U [Ty.hardware_machine, Ty.HwInstruction] (R := PT U [(Ty.int .i64), Ty.hardware_machine]) (hardware_machine_jump N) }
noncomputable def hardware_machine_jump.cx (N : Nat) : Ctx U := mkCx [(150, hardware_machine_registersOrder.ct N), (223, hardware_machine_call.ct), (224, hardware_machine_back.ct)] [] [] [] [] [] [1000000] []
noncomputable def hardware_machine_jump.L (N : Nat) : Nat → Option (Cut U (PT U [(Ty.int .i64), Ty.hardware_machine])) := pick []
theorem hardware_machine_jump.eq (N : Nat) (a0 : hardware_machine) (a1 : HwInstruction) : runF (hardware_machine_jump.cx N) Proofs.Tryz.f158 (hardware_machine_jump.ct N) (hardware_machine_jump.L N) [⟨Ty.hardware_machine, a0⟩, ⟨Ty.HwInstruction, a1⟩] = hardware_machine_jump N a0 a1 := by kernel_rfl
theorem hardware_machine_jump.ok (N : Nat) : ∀ y, finOk (hardware_machine_jump.cx N) (hardware_machine_jump.ct N) y = true := fun y => by kernel_rfl
theorem hardware_machine_jump.meets (N : Nat) : Meets (hardware_machine_jump.cx N) 158 (hardware_machine_jump.ct N) :=
  meets_run (C := hardware_machine_jump.cx N) (ct := hardware_machine_jump.ct N) (Lp := hardware_machine_jump.L N) claws (ook_of (l := [(150, hardware_machine_registersOrder.ct N), (223, hardware_machine_call.ct), (224, hardware_machine_back.ct)]) rfl (all_cons (Meets.ctx (C := hardware_machine_registersOrder.cx N) (C' := hardware_machine_jump.cx N) rfl rfl rfl (hardware_machine_registersOrder.meets N)) (all_cons (Meets.ctx (C := hardware_machine_call.cx) (C' := hardware_machine_jump.cx N) rfl rfl rfl hardware_machine_call.meets) (all_cons (Meets.ctx (C := hardware_machine_back.cx) (C' := hardware_machine_jump.cx N) rfl rfl rfl hardware_machine_back.meets) (all_nil))))) (xok_of (l := []) rfl (all_nil)) Proofs.Tryz.func158 (by kernel_rfl) rfl (lok_of (l := []) rfl (all_nil)) (hardware_machine_jump.ok N) (app_run (U := U) [Ty.hardware_machine, Ty.HwInstruction] (hardware_machine_jump N) (runF (hardware_machine_jump.cx N) Proofs.Tryz.f158 (hardware_machine_jump.ct N) (hardware_machine_jump.L N)) (hardware_machine_jump.eq N))

noncomputable def hardware_machine_execute (N : Nat) (a0 : hardware_machine) (a1 : HwInstruction) : Option (Int × hardware_machine) :=
  cond (a1.Op == 0) ((hardware_machine_number N a0 a1.Place a1.Type_).bind fun r1 => cond r1.2.1 ((hardware_machine_set r1.2.2 a1.R r1.1).bind fun r2 =>
    some ((IntKind.wrap .i64 (r2.HwState.At + 1)), r2)) (some ((IntKind.wrap .i64 (r1.2.2.HwState.At + 1)), r1.2.2))) (cond (a1.Op == 1)
    ((hardware_machine_store N a0 a1).bind fun r3 => some ((IntKind.wrap .i64 (r3.HwState.At + 1)), r3)) (cond (a1.Op == 2) ((hardware_machine_set a0 a1.R a1.Number).bind fun r4 =>
    some ((IntKind.wrap .i64 (r4.HwState.At + 1)), r4)) (cond (a1.Op == 3) ((idx a0.HwState.Registers a1.A).bind fun x5 => (hardware_machine_set a0 a1.R x5).bind fun r6 =>
    some ((IntKind.wrap .i64 (r6.HwState.At + 1)), r6)) (cond (a1.Op == 4) ((hardware_machine_calculate N a0 a1).bind fun r7 => some ((IntKind.wrap .i64 (r7.HwState.At + 1)), r7))
    (cond (a1.Op == 5) ((hardware_machine_registersOrder N a0 a1).bind fun r8 =>
    some ((IntKind.wrap .i64 (a0.HwState.At + 1)), (⟨(⟨a0.HwState.Registers, r8, a0.HwState.Storage, a0.HwState.At, a0.HwState.Stack, a0.HwState.Lines, a0.HwState.Status, a0.HwState.Exception, a0.HwState.Marks, a0.HwState.Steps⟩ : HwState), a0.code, a0.raised⟩ : hardware_machine)))
    ((cond (a1.Op == 9) (some (a1.Op == 9)) (some (a1.Op == 10))).bind fun q9 => cond q9 ((hardware_machine_moveBytes N a0 a1).bind fun r10 =>
    some ((IntKind.wrap .i64 (r10.HwState.At + 1)), r10)) ((cond (a1.Op == 11) (some (a1.Op == 11)) (some (a1.Op == 12))).bind fun q11 =>
    cond q11 ((hardware_machine_compareBytes N a0 a1).bind fun r12 => some ((IntKind.wrap .i64 (r12.HwState.At + 1)), r12)) (cond (a1.Op == 13)
    ((hardware_order a1.Text a1.Other).bind fun r13 =>
    some ((IntKind.wrap .i64 (a0.HwState.At + 1)), (⟨(⟨a0.HwState.Registers, r13, a0.HwState.Storage, a0.HwState.At, a0.HwState.Stack, a0.HwState.Lines, a0.HwState.Status, a0.HwState.Exception, a0.HwState.Marks, a0.HwState.Steps⟩ : HwState), a0.code, a0.raised⟩ : hardware_machine)))
    ((cond (a1.Op == 14) (some (a1.Op == 14)) (cond (a1.Op == 15) (some (a1.Op == 15)) (cond (a1.Op == 16) (some (a1.Op == 16)) (some (a1.Op == 17))))).bind fun q14 =>
    cond q14 ((hardware_machine_pointers N a0 a1).bind fun r15 => some ((IntKind.wrap .i64 (r15.HwState.At + 1)), r15)) (cond (a1.Op == 20)
    ((hardware_machine_signal N a0 a1).bind fun r16 => some ((IntKind.wrap .i64 (r16.HwState.At + 1)), r16)) (cond (a1.Op == 21)
    ((hardware_machine_set a0 a1.R (⟨a0.HwState.Exception, 0⟩ : Number)).bind fun r17 => some ((IntKind.wrap .i64 (r17.HwState.At + 1)), r17)) ((cond (a1.Op == 22)
    (some (a1.Op == 22)) (cond (a1.Op == 23) (some (a1.Op == 23)) (some (a1.Op == 24)))).bind fun q18 => cond q18 ((hardware_machine_print N a0 a1).bind fun r19 =>
    some ((IntKind.wrap .i64 (r19.HwState.At + 1)), r19)) (cond (a1.Op == 25) ((hardware_machine_mark a0).bind fun r20 => some ((IntKind.wrap .i64 (r20.HwState.At + 1)), r20))
    (cond (a1.Op == 26)
    (some ((IntKind.wrap .i64 (a0.HwState.At + 1)), (⟨(⟨a0.HwState.Registers, a0.HwState.Condition, a0.HwState.Storage, a0.HwState.At, a0.HwState.Stack, a0.HwState.Lines, 1, a0.HwState.Exception, a0.HwState.Marks, a0.HwState.Steps⟩ : HwState), a0.code, a0.raised⟩ : hardware_machine)))
    ((hardware_machine_jump N a0 a1).bind fun r21 => some (r21.1, r21.2))))))))))))))))
noncomputable def hardware_machine_execute.ct (N : Nat) : Ct U := { params := [.ptr Ty.hardware_machine true [], .val Ty.HwInstruction], results := [(Ty.int .i64)], outs := [Ty.hardware_machine], fresh := [], fn := app U [Ty.hardware_machine, Ty.HwInstruction] (R := PT U [(Ty.int .i64), Ty.hardware_machine]) (hardware_machine_execute N) }
noncomputable def hardware_machine_execute.cx (N : Nat) : Ctx U := mkCx [(146, hardware_machine_number.ct N), (147, hardware_machine_set.ct), (148, hardware_machine_store.ct N), (149, hardware_machine_calculate.ct N), (150, hardware_machine_registersOrder.ct N), (151, hardware_machine_moveBytes.ct N), (152, hardware_machine_compareBytes.ct N), (153, hardware_order.ct), (154, hardware_machine_pointers.ct N), (155, hardware_machine_signal.ct N), (156, hardware_machine_print.ct N), (157, hardware_machine_mark.ct), (158, hardware_machine_jump.ct N)] [] [] [] [] [] [1000000] [71, 77, 94, 119]
noncomputable def hardware_machine_execute.L (N : Nat) : Nat → Option (Cut U (PT U [(Ty.int .i64), Ty.hardware_machine])) := pick []
theorem hardware_machine_execute.eq (N : Nat) (a0 : hardware_machine) (a1 : HwInstruction) : runF (hardware_machine_execute.cx N) Proofs.Tryz.f104 (hardware_machine_execute.ct N) (hardware_machine_execute.L N) [⟨Ty.hardware_machine, a0⟩, ⟨Ty.HwInstruction, a1⟩] = hardware_machine_execute N a0 a1 := by kernel_rfl
theorem hardware_machine_execute.ok (N : Nat) : ∀ y, finOk (hardware_machine_execute.cx N) (hardware_machine_execute.ct N) y = true := fun y => by kernel_rfl
theorem hardware_machine_execute.meets (N : Nat) : Meets (hardware_machine_execute.cx N) 104 (hardware_machine_execute.ct N) :=
  meets_run (C := hardware_machine_execute.cx N) (ct := hardware_machine_execute.ct N) (Lp := hardware_machine_execute.L N) claws (ook_of (l := [(146, hardware_machine_number.ct N), (147, hardware_machine_set.ct), (148, hardware_machine_store.ct N), (149, hardware_machine_calculate.ct N), (150, hardware_machine_registersOrder.ct N), (151, hardware_machine_moveBytes.ct N), (152, hardware_machine_compareBytes.ct N), (153, hardware_order.ct), (154, hardware_machine_pointers.ct N), (155, hardware_machine_signal.ct N), (156, hardware_machine_print.ct N), (157, hardware_machine_mark.ct), (158, hardware_machine_jump.ct N)]) rfl (all_cons (Meets.ctx (C := hardware_machine_number.cx N) (C' := hardware_machine_execute.cx N) rfl rfl rfl (hardware_machine_number.meets N)) (all_cons (Meets.ctx (C := hardware_machine_set.cx) (C' := hardware_machine_execute.cx N) rfl rfl rfl hardware_machine_set.meets) (all_cons (Meets.ctx (C := hardware_machine_store.cx N) (C' := hardware_machine_execute.cx N) rfl rfl rfl (hardware_machine_store.meets N)) (all_cons (Meets.ctx (C := hardware_machine_calculate.cx N) (C' := hardware_machine_execute.cx N) rfl rfl rfl (hardware_machine_calculate.meets N)) (all_cons (Meets.ctx (C := hardware_machine_registersOrder.cx N) (C' := hardware_machine_execute.cx N) rfl rfl rfl (hardware_machine_registersOrder.meets N)) (all_cons (Meets.ctx (C := hardware_machine_moveBytes.cx N) (C' := hardware_machine_execute.cx N) rfl rfl rfl (hardware_machine_moveBytes.meets N)) (all_cons (Meets.ctx (C := hardware_machine_compareBytes.cx N) (C' := hardware_machine_execute.cx N) rfl rfl rfl (hardware_machine_compareBytes.meets N)) (all_cons (Meets.ctx (C := hardware_order.cx) (C' := hardware_machine_execute.cx N) rfl rfl rfl hardware_order.meets) (all_cons (Meets.ctx (C := hardware_machine_pointers.cx N) (C' := hardware_machine_execute.cx N) rfl rfl rfl (hardware_machine_pointers.meets N)) (all_cons (Meets.ctx (C := hardware_machine_signal.cx N) (C' := hardware_machine_execute.cx N) rfl rfl rfl (hardware_machine_signal.meets N)) (all_cons (Meets.ctx (C := hardware_machine_print.cx N) (C' := hardware_machine_execute.cx N) rfl rfl rfl (hardware_machine_print.meets N)) (all_cons (Meets.ctx (C := hardware_machine_mark.cx) (C' := hardware_machine_execute.cx N) rfl rfl rfl hardware_machine_mark.meets) (all_cons (Meets.ctx (C := hardware_machine_jump.cx N) (C' := hardware_machine_execute.cx N) rfl rfl rfl (hardware_machine_jump.meets N)) (all_nil))))))))))))))) (xok_of (l := []) rfl (all_nil)) Proofs.Tryz.func104 (by kernel_rfl) rfl (lok_of (l := []) rfl (all_nil)) (hardware_machine_execute.ok N) (app_run (U := U) [Ty.hardware_machine, Ty.HwInstruction] (hardware_machine_execute N) (runF (hardware_machine_execute.cx N) Proofs.Tryz.f104 (hardware_machine_execute.ct N) (hardware_machine_execute.L N)) (hardware_machine_execute.eq N))

noncomputable def hardware_handler_c1 (a0 : HwTrap) (a1 : Int) (a2 : Int) : Option Bool :=
  (hardware_in a1 a0.From (IntKind.wrap .i64 (a0.To - 1))).bind fun r1 => (cond r1 ((cond (a0.Exception == 0) (some true) (some (a0.Exception == a2))).bind fun g2 => some g2)
    (some false)).bind fun g3 => some g3
noncomputable def hardware_handler_c1.ct : Ct U := { params := [.val Ty.HwTrap, .ptr (Ty.int .i64) false [], .ptr (Ty.int .i64) false []], results := [Ty.bool], outs := [], fresh := [], fn := app U [Ty.HwTrap, (Ty.int .i64), (Ty.int .i64)] (R := PT U [Ty.bool]) (hardware_handler_c1) }
noncomputable def hardware_handler_c1.cx : Ctx U := mkCx [(58, hardware_in.ct)] [] [] [] [] [1000000, 1000001] [1000000, 1000001] []
noncomputable def hardware_handler_c1.L : Nat → Option (Cut U (PT U [Ty.bool])) := pick []
theorem hardware_handler_c1.eq (a0 : HwTrap) (a1 : Int) (a2 : Int) : runF (hardware_handler_c1.cx) Proofs.Tryz.f226 (hardware_handler_c1.ct) (hardware_handler_c1.L) [⟨Ty.HwTrap, a0⟩, ⟨(Ty.int .i64), a1⟩, ⟨(Ty.int .i64), a2⟩] = hardware_handler_c1 a0 a1 a2 := by kernel_rfl
theorem hardware_handler_c1.ok : ∀ y, finOk (hardware_handler_c1.cx) (hardware_handler_c1.ct) y = true := fun y => by kernel_rfl
theorem hardware_handler_c1.meets : Meets (hardware_handler_c1.cx) 226 (hardware_handler_c1.ct) :=
  meets_run (C := hardware_handler_c1.cx) (ct := hardware_handler_c1.ct) (Lp := hardware_handler_c1.L) claws (ook_of (l := [(58, hardware_in.ct)]) rfl (all_cons (Meets.ctx (C := hardware_in.cx) (C' := hardware_handler_c1.cx) rfl rfl rfl hardware_in.meets) (all_nil))) (xok_of (l := []) rfl (all_nil)) Proofs.Tryz.func226 (by kernel_rfl) rfl (lok_of (l := []) rfl (all_nil)) (hardware_handler_c1.ok) (app_run (U := U) [Ty.HwTrap, (Ty.int .i64), (Ty.int .i64)] (hardware_handler_c1) (runF (hardware_handler_c1.cx) Proofs.Tryz.f226 (hardware_handler_c1.ct) (hardware_handler_c1.L)) hardware_handler_c1.eq)

noncomputable def slices_IndexFunc_api_HwTrap_f226.sp0 : Amx.Spec U := { slots := [(0, .val (Ty.sl Ty.HwTrap)), (1, .fn 226 [1000000, 1000001]), (7, .val (Ty.int .i64)), (8, .val (Ty.int .i64))], boxes := [(1000000, (Ty.int .i64), []), (1000001, (Ty.int .i64), [])] }
noncomputable def slices_IndexFunc_api_HwTrap_f226.b0 (N : Nat) (s0 : List HwTrap) (s7 : Int) (s8 : Int) (b1000000 : Int) (b1000001 : Int) : Option (Round Int ((List HwTrap) × Int × Int × Int × Int)) :=
  cond (decide (s8 < s7)) ((idx s0 s8).bind fun x1001 => (hardware_handler_c1 x1001 b1000000 b1000001).bind fun r1002 => cond r1002 (some (.result s8))
    (some (.again (s0, s7, (IntKind.wrap .i64 (s8 + 1)), b1000000, b1000001)))) (some (.leave (s0, s7, s8, b1000000, b1000001)))
noncomputable def slices_IndexFunc_api_HwTrap_f226.r0 (N : Nat) (x : (List HwTrap) × Int × Int × Int × Int) : Option (Round Int ((List HwTrap) × Int × Int × Int × Int)) := slices_IndexFunc_api_HwTrap_f226.b0 N x.1 x.2.1 x.2.2.1 x.2.2.2.1 x.2.2.2.2
noncomputable def slices_IndexFunc_api_HwTrap_f226 (N : Nat) (a0 : List HwTrap) (a1 : Int) (a2 : Int) : Option Int :=
  (iterR (slices_IndexFunc_api_HwTrap_f226.r0 N) N (a0, (a0.length : Int), 0, a1, a2)).bind fun z2 => resR z2 (fun z => some z) (fun y1 => some (-1))
noncomputable def slices_IndexFunc_api_HwTrap_f226.ct (N : Nat) : Ct U := { params := [.val (Ty.sl Ty.HwTrap), .clo 226 2, .ptr (Ty.int .i64) false [], .ptr (Ty.int .i64) false []], results := [(Ty.int .i64)], outs := [], fresh := [], fn := app U [(Ty.sl Ty.HwTrap), (Ty.int .i64), (Ty.int .i64)] (R := PT U [(Ty.int .i64)]) (slices_IndexFunc_api_HwTrap_f226 N) }
noncomputable def slices_IndexFunc_api_HwTrap_f226.cx (N : Nat) : Ctx U := mkCx [(226, hardware_handler_c1.ct)] [] [] [] [] [1000000, 1000001] [1000000, 1000001] []
noncomputable def slices_IndexFunc_api_HwTrap_f226.L (N : Nat) : Nat → Option (Cut U (PT U [(Ty.int .i64)])) := pick [(0, .rets slices_IndexFunc_api_HwTrap_f226.sp0 [(Ty.sl Ty.HwTrap), (Ty.int .i64), (Ty.int .i64), (Ty.int .i64), (Ty.int .i64)] (iterR (slices_IndexFunc_api_HwTrap_f226.r0 N) N))]
theorem slices_IndexFunc_api_HwTrap_f226.r0_eq (N : Nat) (x : PT U [(Ty.sl Ty.HwTrap), (Ty.int .i64), (Ty.int .i64), (Ty.int .i64), (Ty.int .i64)]) : roundRF (slices_IndexFunc_api_HwTrap_f226.cx N) Proofs.Tryz.f225 (slices_IndexFunc_api_HwTrap_f226.ct N) (slices_IndexFunc_api_HwTrap_f226.L N) slices_IndexFunc_api_HwTrap_f226.sp0 [(Ty.sl Ty.HwTrap), (Ty.int .i64), (Ty.int .i64), (Ty.int .i64), (Ty.int .i64)] 0 x = slices_IndexFunc_api_HwTrap_f226.r0 N x := by kernel_rfl
theorem slices_IndexFunc_api_HwTrap_f226.eq (N : Nat) (a0 : List HwTrap) (a1 : Int) (a2 : Int) : runF (slices_IndexFunc_api_HwTrap_f226.cx N) Proofs.Tryz.f225 (slices_IndexFunc_api_HwTrap_f226.ct N) (slices_IndexFunc_api_HwTrap_f226.L N) [⟨(Ty.sl Ty.HwTrap), a0⟩, ⟨(Ty.int .i64), a1⟩, ⟨(Ty.int .i64), a2⟩] = slices_IndexFunc_api_HwTrap_f226 N a0 a1 a2 := by kernel_rfl
theorem slices_IndexFunc_api_HwTrap_f226.ok (N : Nat) : ∀ y, finOk (slices_IndexFunc_api_HwTrap_f226.cx N) (slices_IndexFunc_api_HwTrap_f226.ct N) y = true := fun y => by kernel_rfl
theorem slices_IndexFunc_api_HwTrap_f226.meets (N : Nat) : Meets (slices_IndexFunc_api_HwTrap_f226.cx N) 225 (slices_IndexFunc_api_HwTrap_f226.ct N) :=
  meets_run (C := slices_IndexFunc_api_HwTrap_f226.cx N) (ct := slices_IndexFunc_api_HwTrap_f226.ct N) (Lp := slices_IndexFunc_api_HwTrap_f226.L N) claws (ook_of (l := [(226, hardware_handler_c1.ct)]) rfl (all_cons (Meets.ctx (C := hardware_handler_c1.cx) (C' := slices_IndexFunc_api_HwTrap_f226.cx N) rfl rfl rfl hardware_handler_c1.meets) (all_nil))) (xok_of (l := []) rfl (all_nil)) Proofs.Tryz.func225 (by kernel_rfl) rfl (lok_of (l := [(0, .rets slices_IndexFunc_api_HwTrap_f226.sp0 [(Ty.sl Ty.HwTrap), (Ty.int .i64), (Ty.int .i64), (Ty.int .i64), (Ty.int .i64)] (iterR (slices_IndexFunc_api_HwTrap_f226.r0 N) N))]) rfl (all_cons (lok_rets (slices_IndexFunc_api_HwTrap_f226.r0_eq N)) (all_nil))) (slices_IndexFunc_api_HwTrap_f226.ok N) (app_run (U := U) [(Ty.sl Ty.HwTrap), (Ty.int .i64), (Ty.int .i64)] (slices_IndexFunc_api_HwTrap_f226 N) (runF (slices_IndexFunc_api_HwTrap_f226.cx N) Proofs.Tryz.f225 (slices_IndexFunc_api_HwTrap_f226.ct N) (slices_IndexFunc_api_HwTrap_f226.L N)) (slices_IndexFunc_api_HwTrap_f226.eq N))

noncomputable def hardware_handler (N : Nat) (a0 : HwCode) (a1 : Int) (a2 : Int) : Option Int :=
  (slices_IndexFunc_api_HwTrap_f226 N a0.Traps a1 a2).bind fun r1 => cond (decide (r1 < 0)) (some (-1)) ((idx a0.Traps r1).bind fun x2 => some x2.Handler)
noncomputable def hardware_handler.ct (N : Nat) : Ct U := { params := [.val Ty.HwCode, .val (Ty.int .i64), .val (Ty.int .i64)], results := [(Ty.int .i64)], outs := [], fresh := [], fn := app U [Ty.HwCode, (Ty.int .i64), (Ty.int .i64)] (R := PT U [(Ty.int .i64)]) (hardware_handler N) }
noncomputable def hardware_handler.cx (N : Nat) : Ctx U := mkCx [(225, slices_IndexFunc_api_HwTrap_f226.ct N)] [] [] [] [] [] [] []
noncomputable def hardware_handler.L (N : Nat) : Nat → Option (Cut U (PT U [(Ty.int .i64)])) := pick []
theorem hardware_handler.eq (N : Nat) (a0 : HwCode) (a1 : Int) (a2 : Int) : runF (hardware_handler.cx N) Proofs.Tryz.f159 (hardware_handler.ct N) (hardware_handler.L N) [⟨Ty.HwCode, a0⟩, ⟨(Ty.int .i64), a1⟩, ⟨(Ty.int .i64), a2⟩] = hardware_handler N a0 a1 a2 := by kernel_rfl
theorem hardware_handler.ok (N : Nat) : ∀ y, finOk (hardware_handler.cx N) (hardware_handler.ct N) y = true := fun y => by kernel_rfl
theorem hardware_handler.meets (N : Nat) : Meets (hardware_handler.cx N) 159 (hardware_handler.ct N) :=
  meets_run (C := hardware_handler.cx N) (ct := hardware_handler.ct N) (Lp := hardware_handler.L N) claws (ook_of (l := [(225, slices_IndexFunc_api_HwTrap_f226.ct N)]) rfl (all_cons (Meets.ctx (C := slices_IndexFunc_api_HwTrap_f226.cx N) (C' := hardware_handler.cx N) rfl rfl rfl (slices_IndexFunc_api_HwTrap_f226.meets N)) (all_nil))) (xok_of (l := []) rfl (all_nil)) Proofs.Tryz.func159 (by kernel_rfl) rfl (lok_of (l := []) rfl (all_nil)) (hardware_handler.ok N) (app_run (U := U) [Ty.HwCode, (Ty.int .i64), (Ty.int .i64)] (hardware_handler N) (runF (hardware_handler.cx N) Proofs.Tryz.f159 (hardware_handler.ct N) (hardware_handler.L N)) (hardware_handler.eq N))

noncomputable def hardware_machine_handle.sp0 : Amx.Spec U := { slots := [(0, .ptr 1000000 0)], boxes := [(1000000, Ty.hardware_machine, [])] }
noncomputable def hardware_machine_handle.b0 (N : Nat) (b1000000 : hardware_machine) : Option (Round hardware_machine hardware_machine) :=
  (hardware_handler N b1000000.code b1000000.HwState.At b1000000.raised).bind fun r1001 => cond (decide (r1001 ≥ 0))
    (some (.result (⟨(⟨b1000000.HwState.Registers, b1000000.HwState.Condition, b1000000.HwState.Storage, r1001, b1000000.HwState.Stack, b1000000.HwState.Lines, b1000000.HwState.Status, b1000000.HwState.Exception, b1000000.HwState.Marks, b1000000.HwState.Steps⟩ : HwState), b1000000.code, b1000000.raised⟩ : hardware_machine)))
    (cond (decide ((IntKind.wrap .i64 ((b1000000.HwState.Stack.length : Int) - 1)) < 0))
    (some (.result (⟨(⟨b1000000.HwState.Registers, b1000000.HwState.Condition, b1000000.HwState.Storage, b1000000.HwState.At, b1000000.HwState.Stack, b1000000.HwState.Lines, 2, b1000000.HwState.Exception, b1000000.HwState.Marks, b1000000.HwState.Steps⟩ : HwState), b1000000.code, b1000000.raised⟩ : hardware_machine)))
    ((idx b1000000.HwState.Stack (IntKind.wrap .i64 ((b1000000.HwState.Stack.length : Int) - 1))).bind fun x1002 =>
    if 0 ≤ (IntKind.wrap .i64 ((b1000000.HwState.Stack.length : Int) - 1)) ∧ (IntKind.wrap .i64 ((b1000000.HwState.Stack.length : Int) - 1)) ≤ (b1000000.HwState.Stack.length : Int) then (if 0 ≤ (0 : Int) ∧ (0 : Int) ≤ (IntKind.wrap .i64 ((b1000000.HwState.Stack.length : Int) - 1)) then ((xClone 8 ((b1000000.HwState.Stack.take (IntKind.wrap .i64 ((b1000000.HwState.Stack.length : Int) - 1)).toNat).drop (0 : Int).toNat)).bind fun r1003 =>
    some (.again (⟨(⟨b1000000.HwState.Registers, b1000000.HwState.Condition, b1000000.HwState.Storage, x1002, r1003, b1000000.HwState.Lines, b1000000.HwState.Status, b1000000.HwState.Exception, b1000000.HwState.Marks, b1000000.HwState.Steps⟩ : HwState), b1000000.code, b1000000.raised⟩ : hardware_machine))) else none) else none))
noncomputable def hardware_machine_handle.r0 (N : Nat) (x : hardware_machine) : Option (Round hardware_machine hardware_machine) := hardware_machine_handle.b0 N x
noncomputable def hardware_machine_handle (N : Nat) (a0 : hardware_machine) : Option hardware_machine :=
  (iterR (hardware_machine_handle.r0 N) N (⟨(⟨a0.HwState.Registers, a0.HwState.Condition, a0.HwState.Storage, a0.HwState.At, a0.HwState.Stack, a0.HwState.Lines, a0.HwState.Status, a0.raised, a0.HwState.Marks, a0.HwState.Steps⟩ : HwState), a0.code, a0.raised⟩ : hardware_machine)).bind fun z2 =>
    resR z2 (fun z => some z) (fun y1 => some y1)
noncomputable def hardware_machine_handle.ct (N : Nat) : Ct U := { params := [.ptr Ty.hardware_machine true []], results := [], outs := [Ty.hardware_machine], fresh := [], fn := app U [Ty.hardware_machine] (R := PT U [Ty.hardware_machine]) (hardware_machine_handle N) }
noncomputable def hardware_machine_handle.cx (N : Nat) : Ctx U := mkCx [(159, hardware_handler.ct N), (160, x160)] [] [] [] [] [] [1000000] []
noncomputable def hardware_machine_handle.L (N : Nat) : Nat → Option (Cut U (PT U [Ty.hardware_machine])) := pick [(0, .rets hardware_machine_handle.sp0 [Ty.hardware_machine] (iterR (hardware_machine_handle.r0 N) N))]
theorem hardware_machine_handle.r0_eq (N : Nat) (x : PT U [Ty.hardware_machine]) : roundRF (hardware_machine_handle.cx N) Proofs.Tryz.f105 (hardware_machine_handle.ct N) (hardware_machine_handle.L N) hardware_machine_handle.sp0 [Ty.hardware_machine] 0 x = hardware_machine_handle.r0 N x := by kernel_rfl
theorem hardware_machine_handle.eq (N : Nat) (a0 : hardware_machine) : runF (hardware_machine_handle.cx N) Proofs.Tryz.f105 (hardware_machine_handle.ct N) (hardware_machine_handle.L N) [⟨Ty.hardware_machine, a0⟩] = hardware_machine_handle N a0 := by kernel_rfl
theorem hardware_machine_handle.ok (N : Nat) : ∀ y, finOk (hardware_machine_handle.cx N) (hardware_machine_handle.ct N) y = true := fun y => by kernel_rfl
theorem hardware_machine_handle.meets (N : Nat) : Meets (hardware_machine_handle.cx N) 105 (hardware_machine_handle.ct N) :=
  meets_run (C := hardware_machine_handle.cx N) (ct := hardware_machine_handle.ct N) (Lp := hardware_machine_handle.L N) claws (ook_of (l := [(159, hardware_handler.ct N), (160, x160)]) rfl (all_cons (Meets.ctx (C := hardware_handler.cx N) (C' := hardware_machine_handle.cx N) rfl rfl rfl (hardware_handler.meets N)) (all_cons (Meets.ctx (C := mkCx [] [] [] [] [] [] [] []) (C' := hardware_machine_handle.cx N) rfl rfl rfl x160.meets) (all_nil)))) (xok_of (l := []) rfl (all_nil)) Proofs.Tryz.func105 (by kernel_rfl) rfl (lok_of (l := [(0, .rets hardware_machine_handle.sp0 [Ty.hardware_machine] (iterR (hardware_machine_handle.r0 N) N))]) rfl (all_cons (lok_rets (hardware_machine_handle.r0_eq N)) (all_nil))) (hardware_machine_handle.ok N) (app_run (U := U) [Ty.hardware_machine] (hardware_machine_handle N) (runF (hardware_machine_handle.cx N) Proofs.Tryz.f105 (hardware_machine_handle.ct N) (hardware_machine_handle.L N)) (hardware_machine_handle.eq N))

noncomputable def hardware_step (N : Nat) (a0 : HwCode) (a1 : HwState) : Option HwState :=
  (idx a0.Instructions a1.At).bind fun x1 =>
    (hardware_machine_execute N (⟨(⟨a1.Registers, a1.Condition, (⟨a1.Storage.Bytes, a1.Storage.Tags⟩ : Storage), a1.At, a1.Stack, a1.Lines, a1.Status, a1.Exception, a1.Marks, (IntKind.wrap .i64 (a1.Steps + 1))⟩ : HwState), (⟨(⟨a0.Storage.Bytes, a0.Storage.Tags⟩ : Storage), a0.Instructions, a0.Traps⟩ : HwCode), 0⟩ : hardware_machine)
    (⟨x1.Op, x1.R, x1.A, x1.B, x1.Calculation, (⟨x1.Place.Based, x1.Place.Pointer, x1.Place.Offset⟩ : HwPlace), (⟨x1.From.Based, x1.From.Pointer, x1.From.Offset⟩ : HwPlace), (⟨x1.Type_.Kind, x1.Type_.Length, x1.Type_.Scale⟩ : DataType), (⟨x1.Second.Kind, x1.Second.Length, x1.Second.Scale⟩ : DataType), x1.Half, x1.InStorage, (⟨x1.Number.N, x1.Number.Scale⟩ : Number), x1.Text, x1.Other, x1.Mask, x1.Target, x1.Pointer, x1.Source⟩ : HwInstruction)).bind fun r2 =>
    cond (r2.2.raised != 0) ((hardware_machine_handle N r2.2).bind fun r3 => (cond (r3.HwState.Status == 0) (some (r3.HwState.Steps == 3000)) (some false)).bind fun g4 =>
    cond g4 (some (⟨r3.HwState.Registers, r3.HwState.Condition, r3.HwState.Storage, r3.HwState.At, r3.HwState.Stack, r3.HwState.Lines, 3, r3.HwState.Exception, r3.HwState.Marks, r3.HwState.Steps⟩ : HwState))
    (some r3.HwState)) (cond (r2.2.HwState.Status != 0) ((cond (r2.2.HwState.Status == 0) (some (r2.2.HwState.Steps == 3000)) (some false)).bind fun g5 =>
    cond g5 (some (⟨r2.2.HwState.Registers, r2.2.HwState.Condition, r2.2.HwState.Storage, r2.2.HwState.At, r2.2.HwState.Stack, r2.2.HwState.Lines, 3, r2.2.HwState.Exception, r2.2.HwState.Marks, r2.2.HwState.Steps⟩ : HwState))
    (some r2.2.HwState)) (cond (r2.1 == (a0.Instructions.length : Int))
    (some (⟨r2.2.HwState.Registers, r2.2.HwState.Condition, r2.2.HwState.Storage, r2.2.HwState.At, r2.2.HwState.Stack, r2.2.HwState.Lines, 1, r2.2.HwState.Exception, r2.2.HwState.Marks, r2.2.HwState.Steps⟩ : HwState))
    ((cond (r2.2.HwState.Status == 0) (some (r2.2.HwState.Steps == 3000)) (some false)).bind fun g6 =>
    cond g6 (some (⟨r2.2.HwState.Registers, r2.2.HwState.Condition, r2.2.HwState.Storage, r2.1, r2.2.HwState.Stack, r2.2.HwState.Lines, 3, r2.2.HwState.Exception, r2.2.HwState.Marks, r2.2.HwState.Steps⟩ : HwState))
    (some (⟨r2.2.HwState.Registers, r2.2.HwState.Condition, r2.2.HwState.Storage, r2.1, r2.2.HwState.Stack, r2.2.HwState.Lines, r2.2.HwState.Status, r2.2.HwState.Exception, r2.2.HwState.Marks, r2.2.HwState.Steps⟩ : HwState)))))
noncomputable def hardware_step.ct (N : Nat) : Ct U := { params := [.val Ty.HwCode, .val Ty.HwState], results := [Ty.HwState], outs := [], fresh := [], fn := app U [Ty.HwCode, Ty.HwState] (R := PT U [Ty.HwState]) (hardware_step N) }
noncomputable def hardware_step.cx (N : Nat) : Ctx U := mkCx [(104, hardware_machine_execute.ct N), (105, hardware_machine_handle.ct N)] [] [] [] [] [] [] []
noncomputable def hardware_step.L (N : Nat) : Nat → Option (Cut U (PT U [Ty.HwState])) := pick []
theorem hardware_step.eq (N : Nat) (a0 : HwCode) (a1 : HwState) : runF (hardware_step.cx N) Proofs.Tryz.f59 (hardware_step.ct N) (hardware_step.L N) [⟨Ty.HwCode, a0⟩, ⟨Ty.HwState, a1⟩] = hardware_step N a0 a1 := by kernel_rfl
theorem hardware_step.ok (N : Nat) : ∀ y, finOk (hardware_step.cx N) (hardware_step.ct N) y = true := fun y => by kernel_rfl
theorem hardware_step.meets (N : Nat) : Meets (hardware_step.cx N) 59 (hardware_step.ct N) :=
  meets_run (C := hardware_step.cx N) (ct := hardware_step.ct N) (Lp := hardware_step.L N) claws (ook_of (l := [(104, hardware_machine_execute.ct N), (105, hardware_machine_handle.ct N)]) rfl (all_cons (Meets.ctx (C := hardware_machine_execute.cx N) (C' := hardware_step.cx N) rfl rfl rfl (hardware_machine_execute.meets N)) (all_cons (Meets.ctx (C := hardware_machine_handle.cx N) (C' := hardware_step.cx N) rfl rfl rfl (hardware_machine_handle.meets N)) (all_nil)))) (xok_of (l := []) rfl (all_nil)) Proofs.Tryz.func59 (by kernel_rfl) rfl (lok_of (l := []) rfl (all_nil)) (hardware_step.ok N) (app_run (U := U) [Ty.HwCode, Ty.HwState] (hardware_step N) (runF (hardware_step.cx N) Proofs.Tryz.f59 (hardware_step.ct N) (hardware_step.L N)) (hardware_step.eq N))

noncomputable def hardware_Run.sp0 : Amx.Spec U := { slots := [(3, .ptr 3 0), (4, .ptr 4 0), (6, .ptr 6 0)], boxes := [(3, Ty.HwCode, []), (4, Ty.HwResult, [0, 6]), (6, Ty.HwState, [])] }
noncomputable def hardware_Run.b0 (N : Nat) (b3 : HwCode) (b4 : HwResult) (b6 : HwState) : Option (Stp (HwCode × HwResult × HwState)) :=
  cond (b6.Status == 0) ((hardware_step N b3 b6).bind fun r1001 => some (.again (b3, b4, r1001))) (some (.leave (b3, b4, b6)))
noncomputable def hardware_Run.r0 (N : Nat) (x : HwCode × HwResult × HwState) : Option (Stp (HwCode × HwResult × HwState)) := hardware_Run.b0 N x.1 x.2.1 x.2.2
noncomputable def hardware_Run (N : Nat) (a0 : HwModel) (a1 : HwCode) : Option (HwResult × Int) :=
  (hardware_Start N (⟨a0.Registers, a0.Fused, a0.Memory⟩ : HwModel) (⟨(⟨a1.Storage.Bytes, a1.Storage.Tags⟩ : Storage), a1.Instructions, a1.Traps⟩ : HwCode)).bind fun r1 =>
    cond (r1.2 != 0) (some ((⟨[], 0, 0, 0, 0, (⟨(⟨#[]⟩ : ByteArray), []⟩ : Storage)⟩ : HwResult), r1.2))
    ((iterP (hardware_Run.r0 N) N ((⟨(⟨a1.Storage.Bytes, a1.Storage.Tags⟩ : Storage), a1.Instructions, a1.Traps⟩ : HwCode), (⟨[], 0, 0, 0, 0, (⟨(⟨#[]⟩ : ByteArray), []⟩ : Storage)⟩ : HwResult), r1.1)).bind fun y2 =>
    some ((⟨y2.2.2.Lines, y2.2.2.Status, y2.2.2.Exception, y2.2.2.Marks, y2.2.2.Steps, y2.2.2.Storage⟩ : HwResult), 0))
noncomputable def hardware_Run.ct (N : Nat) : Ct U := { params := [.val Ty.HwModel, .val Ty.HwCode], results := [Ty.HwResult, (Ty.int .i64)], outs := [], fresh := [], fn := app U [Ty.HwModel, Ty.HwCode] (R := PT U [Ty.HwResult, (Ty.int .i64)]) (hardware_Run N) }
noncomputable def hardware_Run.cx (N : Nat) : Ctx U := mkCx [(34, hardware_Start.ct N), (59, hardware_step.ct N)] [] [] [] [] [] [] []
noncomputable def hardware_Run.L (N : Nat) : Nat → Option (Cut U (PT U [Ty.HwResult, (Ty.int .i64)])) := pick [(0, .plain hardware_Run.sp0 [Ty.HwCode, Ty.HwResult, Ty.HwState] (iterP (hardware_Run.r0 N) N))]
theorem hardware_Run.r0_eq (N : Nat) (x : PT U [Ty.HwCode, Ty.HwResult, Ty.HwState]) : roundPF (hardware_Run.cx N) Proofs.Tryz.f19 (hardware_Run.L N) hardware_Run.sp0 [Ty.HwCode, Ty.HwResult, Ty.HwState] 0 x = hardware_Run.r0 N x := by kernel_rfl
theorem hardware_Run.eq (N : Nat) (a0 : HwModel) (a1 : HwCode) : runF (hardware_Run.cx N) Proofs.Tryz.f19 (hardware_Run.ct N) (hardware_Run.L N) [⟨Ty.HwModel, a0⟩, ⟨Ty.HwCode, a1⟩] = hardware_Run N a0 a1 := by kernel_rfl
theorem hardware_Run.ok (N : Nat) : ∀ y, finOk (hardware_Run.cx N) (hardware_Run.ct N) y = true := fun y => by kernel_rfl
theorem hardware_Run.meets (N : Nat) : Meets (hardware_Run.cx N) 19 (hardware_Run.ct N) :=
  meets_run (C := hardware_Run.cx N) (ct := hardware_Run.ct N) (Lp := hardware_Run.L N) claws (ook_of (l := [(34, hardware_Start.ct N), (59, hardware_step.ct N)]) rfl (all_cons (Meets.ctx (C := hardware_Start.cx N) (C' := hardware_Run.cx N) rfl rfl rfl (hardware_Start.meets N)) (all_cons (Meets.ctx (C := hardware_step.cx N) (C' := hardware_Run.cx N) rfl rfl rfl (hardware_step.meets N)) (all_nil)))) (xok_of (l := []) rfl (all_nil)) Proofs.Tryz.func19 (by kernel_rfl) rfl (lok_of (l := [(0, .plain hardware_Run.sp0 [Ty.HwCode, Ty.HwResult, Ty.HwState] (iterP (hardware_Run.r0 N) N))]) rfl (all_cons (lok_plain (hardware_Run.r0_eq N)) (all_nil))) (hardware_Run.ok N) (app_run (U := U) [Ty.HwModel, Ty.HwCode] (hardware_Run N) (runF (hardware_Run.cx N) Proofs.Tryz.f19 (hardware_Run.ct N) (hardware_Run.L N)) (hardware_Run.eq N))

noncomputable def base_Strings.sp0 : Amx.Spec U := { slots := [(0, .val (Ty.sl Ty.str)), (1, .val (Ty.sl Ty.str)), (5, .val (Ty.int .i64))], boxes := [] }
noncomputable def base_Strings.b0 (N : Nat) (s0 : List ByteArray) (s1 : List ByteArray) (s5 : Int) : Option (Round Bool ((List ByteArray) × (List ByteArray) × Int)) :=
  cond (decide (s5 < (s0.length : Int))) ((idx s0 s5).bind fun x1001 => (idx s1 s5).bind fun x1002 => cond (!(x1001.toList == x1002.toList)) (some (.result false))
    (some (.again (s0, s1, (IntKind.wrap .i64 (s5 + 1)))))) (some (.leave (s0, s1, s5)))
noncomputable def base_Strings.r0 (N : Nat) (x : (List ByteArray) × (List ByteArray) × Int) : Option (Round Bool ((List ByteArray) × (List ByteArray) × Int)) := base_Strings.b0 N x.1 x.2.1 x.2.2
noncomputable def base_Strings (N : Nat) (a0 : List ByteArray) (a1 : List ByteArray) : Option Bool :=
  cond ((a0.length : Int) != (a1.length : Int)) (some false) ((iterR (base_Strings.r0 N) N (a0, a1, 0)).bind fun z2 => resR z2 (fun z => some z) (fun y1 => some true))
noncomputable def base_Strings.ct (N : Nat) : Ct U := { params := [.val (Ty.sl Ty.str), .val (Ty.sl Ty.str)], results := [Ty.bool], outs := [], fresh := [], fn := app U [(Ty.sl Ty.str), (Ty.sl Ty.str)] (R := PT U [Ty.bool]) (base_Strings N) }
noncomputable def base_Strings.cx (N : Nat) : Ctx U := mkCx [] [] [] [] [] [] [] []
noncomputable def base_Strings.L (N : Nat) : Nat → Option (Cut U (PT U [Ty.bool])) := pick [(0, .rets base_Strings.sp0 [(Ty.sl Ty.str), (Ty.sl Ty.str), (Ty.int .i64)] (iterR (base_Strings.r0 N) N))]
theorem base_Strings.r0_eq (N : Nat) (x : PT U [(Ty.sl Ty.str), (Ty.sl Ty.str), (Ty.int .i64)]) : roundRF (base_Strings.cx N) Proofs.Tryz.f44 (base_Strings.ct N) (base_Strings.L N) base_Strings.sp0 [(Ty.sl Ty.str), (Ty.sl Ty.str), (Ty.int .i64)] 0 x = base_Strings.r0 N x := by kernel_rfl
theorem base_Strings.eq (N : Nat) (a0 : List ByteArray) (a1 : List ByteArray) : runF (base_Strings.cx N) Proofs.Tryz.f44 (base_Strings.ct N) (base_Strings.L N) [⟨(Ty.sl Ty.str), a0⟩, ⟨(Ty.sl Ty.str), a1⟩] = base_Strings N a0 a1 := by kernel_rfl
theorem base_Strings.ok (N : Nat) : ∀ y, finOk (base_Strings.cx N) (base_Strings.ct N) y = true := fun y => by kernel_rfl
theorem base_Strings.meets (N : Nat) : Meets (base_Strings.cx N) 44 (base_Strings.ct N) :=
  meets_run (C := base_Strings.cx N) (ct := base_Strings.ct N) (Lp := base_Strings.L N) claws (ook_of (l := []) rfl (all_nil)) (xok_of (l := []) rfl (all_nil)) Proofs.Tryz.func44 (by kernel_rfl) rfl (lok_of (l := [(0, .rets base_Strings.sp0 [(Ty.sl Ty.str), (Ty.sl Ty.str), (Ty.int .i64)] (iterR (base_Strings.r0 N) N))]) rfl (all_cons (lok_rets (base_Strings.r0_eq N)) (all_nil))) (base_Strings.ok N) (app_run (U := U) [(Ty.sl Ty.str), (Ty.sl Ty.str)] (base_Strings N) (runF (base_Strings.cx N) Proofs.Tryz.f44 (base_Strings.ct N) (base_Strings.L N)) (base_Strings.eq N))

noncomputable def law15_awake (N : Nat)  : Option Bool :=
  (law15_Two N).bind fun r1 => (hardware_Run N (⟨2, false, false⟩ : HwModel) (⟨(⟨r1.Storage.Bytes, r1.Storage.Tags⟩ : Storage), r1.Instructions, r1.Traps⟩ : HwCode)).bind fun r2 =>
    (cond (r2.2 == 0) ((base_Strings N r2.1.Lines ([(⟨#[50]⟩ : ByteArray)] : List ByteArray)).bind fun r3 => some r3) (some false)).bind fun g4 => (cond g4 (some (r2.1.Status == 1))
    (some false)).bind fun g5 => (cond g5 (some (r2.1.Steps == 4)) (some false)).bind fun g6 => some g6
noncomputable def law15_awake.ct (N : Nat) : Ct U := { params := [], results := [Ty.bool], outs := [], fresh := [], fn := app U [] (R := PT U [Ty.bool]) (law15_awake N) }
noncomputable def law15_awake.cx (N : Nat) : Ctx U := mkCx [(19, hardware_Run.ct N), (44, base_Strings.ct N), (45, law15_Two.ct N)] [] [] [] [5, 14] [] [] []
noncomputable def law15_awake.L (N : Nat) : Nat → Option (Cut U (PT U [Ty.bool])) := pick []
theorem law15_awake.eq (N : Nat)  : runF (law15_awake.cx N) Proofs.Tryz.f12 (law15_awake.ct N) (law15_awake.L N) [] = law15_awake N := by kernel_rfl
theorem law15_awake.ok (N : Nat) : ∀ y, finOk (law15_awake.cx N) (law15_awake.ct N) y = true := fun y => by kernel_rfl
theorem law15_awake.meets (N : Nat) : Meets (law15_awake.cx N) 12 (law15_awake.ct N) :=
  meets_run (C := law15_awake.cx N) (ct := law15_awake.ct N) (Lp := law15_awake.L N) claws (ook_of (l := [(19, hardware_Run.ct N), (44, base_Strings.ct N), (45, law15_Two.ct N)]) rfl (all_cons (Meets.ctx (C := hardware_Run.cx N) (C' := law15_awake.cx N) rfl rfl rfl (hardware_Run.meets N)) (all_cons (Meets.ctx (C := base_Strings.cx N) (C' := law15_awake.cx N) rfl rfl rfl (base_Strings.meets N)) (all_cons (Meets.ctx (C := law15_Two.cx N) (C' := law15_awake.cx N) rfl rfl rfl (law15_Two.meets N)) (all_nil))))) (xok_of (l := []) rfl (all_nil)) Proofs.Tryz.func12 (by kernel_rfl) rfl (lok_of (l := []) rfl (all_nil)) (law15_awake.ok N) (app_run (U := U) [] (law15_awake N) (runF (law15_awake.cx N) Proofs.Tryz.f12 (law15_awake.ct N) (law15_awake.L N)) (law15_awake.eq N))

noncomputable def law15_fewStorage (a0 : Storage) : Option Bool :=
  (cond (decide ((a0.Bytes.size : Int) ≤ 1072)) (some (decide ((a0.Tags.length : Int) ≤ 67))) (some false)).bind fun g1 => some g1
noncomputable def law15_fewStorage.ct : Ct U := { params := [.val Ty.Storage], results := [Ty.bool], outs := [], fresh := [], fn := app U [Ty.Storage] (R := PT U [Ty.bool]) (law15_fewStorage) }
noncomputable def law15_fewStorage.cx : Ctx U := mkCx [] [] [] [] [] [] [] []
noncomputable def law15_fewStorage.L : Nat → Option (Cut U (PT U [Ty.bool])) := pick []
theorem law15_fewStorage.eq (a0 : Storage) : runF (law15_fewStorage.cx) Proofs.Tryz.f46 (law15_fewStorage.ct) (law15_fewStorage.L) [⟨Ty.Storage, a0⟩] = law15_fewStorage a0 := by kernel_rfl
theorem law15_fewStorage.ok : ∀ y, finOk (law15_fewStorage.cx) (law15_fewStorage.ct) y = true := fun y => by kernel_rfl
theorem law15_fewStorage.meets : Meets (law15_fewStorage.cx) 46 (law15_fewStorage.ct) :=
  meets_run (C := law15_fewStorage.cx) (ct := law15_fewStorage.ct) (Lp := law15_fewStorage.L) claws (ook_of (l := []) rfl (all_nil)) (xok_of (l := []) rfl (all_nil)) Proofs.Tryz.func46 (by kernel_rfl) rfl (lok_of (l := []) rfl (all_nil)) (law15_fewStorage.ok) (app_run (U := U) [Ty.Storage] (law15_fewStorage) (runF (law15_fewStorage.cx) Proofs.Tryz.f46 (law15_fewStorage.ct) (law15_fewStorage.L)) law15_fewStorage.eq)
end Go.Proofs.YtppbpnknfigboaaGreatDoor.M
