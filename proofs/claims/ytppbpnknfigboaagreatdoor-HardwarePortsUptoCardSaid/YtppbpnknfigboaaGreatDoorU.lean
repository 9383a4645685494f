/- The program's types, and their cells. -/
import Derived.Test.YtppbpnknfigboaaGreatDoorA3
import Derived.Test.YtppbpnknfigboaaGreatDoorShelf
import Derived.KernelRfl
namespace Go.Proofs.YtppbpnknfigboaaGreatDoor.M
open Go Go.Amx
set_option linter.unusedVariables false
set_option maxRecDepth 100000
structure hardware_form where
  fields : Int
  types : Int
structure runtime_boundsError where
  x : Int
  y : Int
  signed : Bool
  code : Int
structure runtime_errorAddressString where
  msg : ByteArray
  addr : Int
structure HwModel where
  Registers : Int
  Fused : Bool
  Memory : Bool
structure Storage where
  Bytes : ByteArray
  Tags : List Bool
structure HwPlace where
  Based : Bool
  Pointer : Int
  Offset : Int
structure DataType where
  Kind : Int
  Length : Int
  Scale : Int
structure Number where
  N : Int
  Scale : Int
structure HwInstruction where
  Op : Int
  R : Int
  A : Int
  B : Int
  Calculation : Int
  Place : HwPlace
  From : HwPlace
  Type_ : DataType
  Second : DataType
  Half : Bool
  InStorage : Bool
  Number : Number
  Text : ByteArray
  Other : ByteArray
  Mask : Int
  Target : Int
  Pointer : Int
  Source : Int
structure HwTrap where
  From : Int
  To : Int
  Exception : Int
  Handler : Int
structure HwCode where
  Storage : Storage
  Instructions : List HwInstruction
  Traps : List HwTrap
structure HwResult where
  Lines : List ByteArray
  Status : Int
  Exception : Int
  Marks : Int
  Steps : Int
  Storage : Storage
structure Value where
  N : Int
  S : ByteArray
structure MiOperand where
  Name : ByteArray
  Kind : Int
  Type_ : DataType
  Value : Value
  Base : ByteArray
  Offset : Int
  Target : Int
structure MiInstruction where
  Op : Int
  Args : List Int
structure MiMonitor where
  From : Int
  To : Int
  Exception : Int
  Handler : Int
structure MiProgram where
  Operands : List MiOperand
  Instructions : List MiInstruction
  Monitors : List MiMonitor
structure MiResult where
  Lines : List ByteArray
  Status : Int
  Exception : Int
  Steps : Int
structure HwState where
  Registers : List Number
  Condition : Int
  Storage : Storage
  At : Int
  Stack : List Int
  Lines : List ByteArray
  Status : Int
  Exception : Int
  Marks : Int
  Steps : Int
structure MiState where
  Storage : Storage
  At : Int
  Stack : List Int
  Lines : List ByteArray
  Status : Int
  Exception : Int
  Steps : Int
structure MiPlace where
  Part : Int
  Index : Int
structure Address where
  Segment : Int
  Offset : Int
structure Pointer where
  Kind : Int
  Address : Address
  Authority : Int
structure ref15_fields where
  R : Bool
  A : Bool
  B : Bool
  Place : Bool
  From : Bool
  Half : Bool
  Number : Bool
  Calculation : Bool
  Mask : Bool
  Target : Bool
  Text : Bool
  Other : Bool
  Pointer : Bool
  Source : Bool
  Type_ : Int
  Second : Int
structure hardware_machine where
  HwState : HwState
  code : HwCode
  raised : Int
structure interpret_machine where
  MiProgram : MiProgram
  MiState : MiState
  layout : List Int
  raised : Int
structure ref01_Long where
  Below : Bool
  Digits : List Int
structure ref01_Request where
  Op : Int
  Type_ : DataType
  Half : Bool
structure ref01_Fraction where
  Top : ref01_Long
  Bottom : List Int
structure A4_u64 where
  e0 : Int
  e1 : Int
  e2 : Int
  e3 : Int
structure numeric_fraction where
  below : Bool
  amount : A4_u64
  division : A4_u64
inductive Ty where
  | int (k : IntKind)
  | bool
  | str
  | nil
  | sl (t : Ty)
  | st (n : Nat)
@[reducible] noncomputable def stDen : Nat → Type
  | 0 => hardware_form
  | 1 => runtime_boundsError
  | 2 => runtime_errorAddressString
  | 3 => HwModel
  | 4 => Storage
  | 5 => HwPlace
  | 6 => DataType
  | 7 => Number
  | 8 => HwInstruction
  | 9 => HwTrap
  | 10 => HwCode
  | 11 => HwResult
  | 12 => Value
  | 13 => MiOperand
  | 14 => MiInstruction
  | 15 => MiMonitor
  | 16 => MiProgram
  | 17 => MiResult
  | 18 => HwState
  | 19 => MiState
  | 20 => MiPlace
  | 21 => Address
  | 22 => Pointer
  | 23 => ref15_fields
  | 24 => hardware_machine
  | 25 => interpret_machine
  | 26 => ref01_Long
  | 27 => ref01_Request
  | 28 => ref01_Fraction
  | 29 => A4_u64
  | 30 => numeric_fraction
  | _ + 31 => Unit
@[reducible] noncomputable def den : Ty → Type
  | .int _ => Int
  | .bool => Bool
  | .str => ByteArray
  | .nil => Unit
  | .sl t => List (den t)
  | .st n => stDen n
noncomputable def eqTy : (a b : Ty) → Option (PLift (a = b))
  | .int j, .int k => if h : j = k then some ⟨by rw [h]⟩ else none
  | .bool, .bool => some ⟨rfl⟩
  | .str, .str => some ⟨rfl⟩
  | .nil, .nil => some ⟨rfl⟩
  | .sl a, .sl b => match eqTy a b with
    | some ⟨h⟩ => some ⟨by rw [h]⟩
    | none => none
  | .st i, .st j => if h : i = j then some ⟨by rw [h]⟩ else none
  | _, _ => none
@[reducible] noncomputable def U : Uni := { Ty := Ty, den := den, eqTy := eqTy }
@[reducible] noncomputable def Ty.hardware_form : Ty := .st 0
@[reducible] noncomputable def Ty.runtime_boundsError : Ty := .st 1
@[reducible] noncomputable def Ty.runtime_errorAddressString : Ty := .st 2
@[reducible] noncomputable def Ty.HwModel : Ty := .st 3
@[reducible] noncomputable def Ty.Storage : Ty := .st 4
@[reducible] noncomputable def Ty.HwPlace : Ty := .st 5
@[reducible] noncomputable def Ty.DataType : Ty := .st 6
@[reducible] noncomputable def Ty.Number : Ty := .st 7
@[reducible] noncomputable def Ty.HwInstruction : Ty := .st 8
@[reducible] noncomputable def Ty.HwTrap : Ty := .st 9
@[reducible] noncomputable def Ty.HwCode : Ty := .st 10
@[reducible] noncomputable def Ty.HwResult : Ty := .st 11
@[reducible] noncomputable def Ty.Value : Ty := .st 12
@[reducible] noncomputable def Ty.MiOperand : Ty := .st 13
@[reducible] noncomputable def Ty.MiInstruction : Ty := .st 14
@[reducible] noncomputable def Ty.MiMonitor : Ty := .st 15
@[reducible] noncomputable def Ty.MiProgram : Ty := .st 16
@[reducible] noncomputable def Ty.MiResult : Ty := .st 17
@[reducible] noncomputable def Ty.HwState : Ty := .st 18
@[reducible] noncomputable def Ty.MiState : Ty := .st 19
@[reducible] noncomputable def Ty.MiPlace : Ty := .st 20
@[reducible] noncomputable def Ty.Address : Ty := .st 21
@[reducible] noncomputable def Ty.Pointer : Ty := .st 22
@[reducible] noncomputable def Ty.ref15_fields : Ty := .st 23
@[reducible] noncomputable def Ty.hardware_machine : Ty := .st 24
@[reducible] noncomputable def Ty.interpret_machine : Ty := .st 25
@[reducible] noncomputable def Ty.ref01_Long : Ty := .st 26
@[reducible] noncomputable def Ty.ref01_Request : Ty := .st 27
@[reducible] noncomputable def Ty.ref01_Fraction : Ty := .st 28
@[reducible] noncomputable def Ty.A4_u64 : Ty := .st 29
@[reducible] noncomputable def Ty.numeric_fraction : Ty := .st 30
noncomputable def rInt (k : IntKind) : List (AV U) → Option (Int × List (AV U))
  | .sc (.int k' n) :: l => if k = k' then some (n, l) else none
  | _ => none
noncomputable def rBool : List (AV U) → Option (Bool × List (AV U))
  | .sc (.bool b) :: l => some (b, l)
  | _ => none
noncomputable def rStr : List (AV U) → Option (ByteArray × List (AV U))
  | .sc (.string s) :: l => some (s, l)
  | _ => none
noncomputable def rNil : List (AV U) → Option (Unit × List (AV U))
  | .sc (.slice none 0 0) :: l => some ((), l)
  | _ => none
noncomputable def rSl (t : Ty) : List (AV U) → Option (List (den t) × List (AV U))
  | .lst t' xs :: l => (U.eqTy t' t).map fun e => (castL e xs, l)
  | .sc (.slice none 0 0) :: l => some ([], l)
  | _ => none
noncomputable def rhardware_form (l : List (AV U)) : Option (hardware_form × List (AV U)) := (rInt .i64 l).bind fun x0 => (rInt .i64 x0.2).bind fun x1 => some (⟨x0.1, x1.1⟩, x1.2)
noncomputable def rruntime_boundsError (l : List (AV U)) : Option (runtime_boundsError × List (AV U)) := (rInt .i64 l).bind fun x0 => (rInt .i64 x0.2).bind fun x1 => (rBool x1.2).bind fun x2 => (rInt .u8 x2.2).bind fun x3 => some (⟨x0.1, x1.1, x2.1, x3.1⟩, x3.2)
noncomputable def rruntime_errorAddressString (l : List (AV U)) : Option (runtime_errorAddressString × List (AV U)) := (rStr l).bind fun x0 => (rInt .u64 x0.2).bind fun x1 => some (⟨x0.1, x1.1⟩, x1.2)
noncomputable def rHwModel (l : List (AV U)) : Option (HwModel × List (AV U)) := (rInt .i64 l).bind fun x0 => (rBool x0.2).bind fun x1 => (rBool x1.2).bind fun x2 => some (⟨x0.1, x1.1, x2.1⟩, x2.2)
noncomputable def rStorage (l : List (AV U)) : Option (Storage × List (AV U)) := (rStr l).bind fun x0 => (rSl Ty.bool x0.2).bind fun x1 => some (⟨x0.1, x1.1⟩, x1.2)
noncomputable def rHwPlace (l : List (AV U)) : Option (HwPlace × List (AV U)) := (rBool l).bind fun x0 => (rInt .i64 x0.2).bind fun x1 => (rInt .i64 x1.2).bind fun x2 => some (⟨x0.1, x1.1, x2.1⟩, x2.2)
noncomputable def rDataType (l : List (AV U)) : Option (DataType × List (AV U)) := (rInt .i64 l).bind fun x0 => (rInt .i64 x0.2).bind fun x1 => (rInt .i64 x1.2).bind fun x2 => some (⟨x0.1, x1.1, x2.1⟩, x2.2)
noncomputable def rNumber (l : List (AV U)) : Option (Number × List (AV U)) := (rInt .i64 l).bind fun x0 => (rInt .i64 x0.2).bind fun x1 => some (⟨x0.1, x1.1⟩, x1.2)
noncomputable def rHwInstruction (l : List (AV U)) : Option (HwInstruction × List (AV U)) := (rInt .i64 l).bind fun x0 => (rInt .i64 x0.2).bind fun x1 => (rInt .i64 x1.2).bind fun x2 => (rInt .i64 x2.2).bind fun x3 => (rInt .i64 x3.2).bind fun x4 => (rHwPlace x4.2).bind fun x5 => (rHwPlace x5.2).bind fun x6 => (rDataType x6.2).bind fun x7 => (rDataType x7.2).bind fun x8 => (rBool x8.2).bind fun x9 => (rBool x9.2).bind fun x10 => (rNumber x10.2).bind fun x11 => (rStr x11.2).bind fun x12 => (rStr x12.2).bind fun x13 => (rInt .i64 x13.2).bind fun x14 => (rInt .i64 x14.2).bind fun x15 => (rInt .i64 x15.2).bind fun x16 => (rInt .i64 x16.2).bind fun x17 => some (⟨x0.1, x1.1, x2.1, x3.1, x4.1, x5.1, x6.1, x7.1, x8.1, x9.1, x10.1, x11.1, x12.1, x13.1, x14.1, x15.1, x16.1, x17.1⟩, x17.2)
noncomputable def rHwTrap (l : List (AV U)) : Option (HwTrap × List (AV U)) := (rInt .i64 l).bind fun x0 => (rInt .i64 x0.2).bind fun x1 => (rInt .i64 x1.2).bind fun x2 => (rInt .i64 x2.2).bind fun x3 => some (⟨x0.1, x1.1, x2.1, x3.1⟩, x3.2)
noncomputable def rHwCode (l : List (AV U)) : Option (HwCode × List (AV U)) := (rStorage l).bind fun x0 => (rSl Ty.HwInstruction x0.2).bind fun x1 => (rSl Ty.HwTrap x1.2).bind fun x2 => some (⟨x0.1, x1.1, x2.1⟩, x2.2)
noncomputable def rHwResult (l : List (AV U)) : Option (HwResult × List (AV U)) := (rSl Ty.str l).bind fun x0 => (rInt .i64 x0.2).bind fun x1 => (rInt .i64 x1.2).bind fun x2 => (rInt .i64 x2.2).bind fun x3 => (rInt .i64 x3.2).bind fun x4 => (rStorage x4.2).bind fun x5 => some (⟨x0.1, x1.1, x2.1, x3.1, x4.1, x5.1⟩, x5.2)
noncomputable def rValue (l : List (AV U)) : Option (Value × List (AV U)) := (rInt .i64 l).bind fun x0 => (rStr x0.2).bind fun x1 => some (⟨x0.1, x1.1⟩, x1.2)
noncomputable def rMiOperand (l : List (AV U)) : Option (MiOperand × List (AV U)) := (rStr l).bind fun x0 => (rInt .i64 x0.2).bind fun x1 => (rDataType x1.2).bind fun x2 => (rValue x2.2).bind fun x3 => (rStr x3.2).bind fun x4 => (rInt .i64 x4.2).bind fun x5 => (rInt .i64 x5.2).bind fun x6 => some (⟨x0.1, x1.1, x2.1, x3.1, x4.1, x5.1, x6.1⟩, x6.2)
noncomputable def rMiInstruction (l : List (AV U)) : Option (MiInstruction × List (AV U)) := (rInt .i64 l).bind fun x0 => (rSl (Ty.int .i64) x0.2).bind fun x1 => some (⟨x0.1, x1.1⟩, x1.2)
noncomputable def rMiMonitor (l : List (AV U)) : Option (MiMonitor × List (AV U)) := (rInt .i64 l).bind fun x0 => (rInt .i64 x0.2).bind fun x1 => (rInt .i64 x1.2).bind fun x2 => (rInt .i64 x2.2).bind fun x3 => some (⟨x0.1, x1.1, x2.1, x3.1⟩, x3.2)
noncomputable def rMiProgram (l : List (AV U)) : Option (MiProgram × List (AV U)) := (rSl Ty.MiOperand l).bind fun x0 => (rSl Ty.MiInstruction x0.2).bind fun x1 => (rSl Ty.MiMonitor x1.2).bind fun x2 => some (⟨x0.1, x1.1, x2.1⟩, x2.2)
noncomputable def rMiResult (l : List (AV U)) : Option (MiResult × List (AV U)) := (rSl Ty.str l).bind fun x0 => (rInt .i64 x0.2).bind fun x1 => (rInt .i64 x1.2).bind fun x2 => (rInt .i64 x2.2).bind fun x3 => some (⟨x0.1, x1.1, x2.1, x3.1⟩, x3.2)
noncomputable def rHwState (l : List (AV U)) : Option (HwState × List (AV U)) := (rSl Ty.Number l).bind fun x0 => (rInt .i64 x0.2).bind fun x1 => (rStorage x1.2).bind fun x2 => (rInt .i64 x2.2).bind fun x3 => (rSl (Ty.int .i64) x3.2).bind fun x4 => (rSl Ty.str x4.2).bind fun x5 => (rInt .i64 x5.2).bind fun x6 => (rInt .i64 x6.2).bind fun x7 => (rInt .i64 x7.2).bind fun x8 => (rInt .i64 x8.2).bind fun x9 => some (⟨x0.1, x1.1, x2.1, x3.1, x4.1, x5.1, x6.1, x7.1, x8.1, x9.1⟩, x9.2)
noncomputable def rMiState (l : List (AV U)) : Option (MiState × List (AV U)) := (rStorage l).bind fun x0 => (rInt .i64 x0.2).bind fun x1 => (rSl (Ty.int .i64) x1.2).bind fun x2 => (rSl Ty.str x2.2).bind fun x3 => (rInt .i64 x3.2).bind fun x4 => (rInt .i64 x4.2).bind fun x5 => (rInt .i64 x5.2).bind fun x6 => some (⟨x0.1, x1.1, x2.1, x3.1, x4.1, x5.1, x6.1⟩, x6.2)
noncomputable def rMiPlace (l : List (AV U)) : Option (MiPlace × List (AV U)) := (rInt .i64 l).bind fun x0 => (rInt .i64 x0.2).bind fun x1 => some (⟨x0.1, x1.1⟩, x1.2)
noncomputable def rAddress (l : List (AV U)) : Option (Address × List (AV U)) := (rInt .i64 l).bind fun x0 => (rInt .i64 x0.2).bind fun x1 => some (⟨x0.1, x1.1⟩, x1.2)
noncomputable def rPointer (l : List (AV U)) : Option (Pointer × List (AV U)) := (rInt .i64 l).bind fun x0 => (rAddress x0.2).bind fun x1 => (rInt .i64 x1.2).bind fun x2 => some (⟨x0.1, x1.1, x2.1⟩, x2.2)
noncomputable def rref15_fields (l : List (AV U)) : Option (ref15_fields × List (AV U)) := (rBool l).bind fun x0 => (rBool x0.2).bind fun x1 => (rBool x1.2).bind fun x2 => (rBool x2.2).bind fun x3 => (rBool x3.2).bind fun x4 => (rBool x4.2).bind fun x5 => (rBool x5.2).bind fun x6 => (rBool x6.2).bind fun x7 => (rBool x7.2).bind fun x8 => (rBool x8.2).bind fun x9 => (rBool x9.2).bind fun x10 => (rBool x10.2).bind fun x11 => (rBool x11.2).bind fun x12 => (rBool x12.2).bind fun x13 => (rInt .i64 x13.2).bind fun x14 => (rInt .i64 x14.2).bind fun x15 => some (⟨x0.1, x1.1, x2.1, x3.1, x4.1, x5.1, x6.1, x7.1, x8.1, x9.1, x10.1, x11.1, x12.1, x13.1, x14.1, x15.1⟩, x15.2)
noncomputable def rhardware_machine (l : List (AV U)) : Option (hardware_machine × List (AV U)) := (rHwState l).bind fun x0 => (rHwCode x0.2).bind fun x1 => (rInt .i64 x1.2).bind fun x2 => some (⟨x0.1, x1.1, x2.1⟩, x2.2)
noncomputable def rinterpret_machine (l : List (AV U)) : Option (interpret_machine × List (AV U)) := (rMiProgram l).bind fun x0 => (rMiState x0.2).bind fun x1 => (rSl (Ty.int .i64) x1.2).bind fun x2 => (rInt .i64 x2.2).bind fun x3 => some (⟨x0.1, x1.1, x2.1, x3.1⟩, x3.2)
noncomputable def rref01_Long (l : List (AV U)) : Option (ref01_Long × List (AV U)) := (rBool l).bind fun x0 => (rSl (Ty.int .i64) x0.2).bind fun x1 => some (⟨x0.1, x1.1⟩, x1.2)
noncomputable def rref01_Request (l : List (AV U)) : Option (ref01_Request × List (AV U)) := (rInt .i64 l).bind fun x0 => (rDataType x0.2).bind fun x1 => (rBool x1.2).bind fun x2 => some (⟨x0.1, x1.1, x2.1⟩, x2.2)
noncomputable def rref01_Fraction (l : List (AV U)) : Option (ref01_Fraction × List (AV U)) := (rref01_Long l).bind fun x0 => (rSl (Ty.int .i64) x0.2).bind fun x1 => some (⟨x0.1, x1.1⟩, x1.2)
noncomputable def rA4_u64 (l : List (AV U)) : Option (A4_u64 × List (AV U)) := (rInt .u64 l).bind fun x0 => (rInt .u64 x0.2).bind fun x1 => (rInt .u64 x1.2).bind fun x2 => (rInt .u64 x2.2).bind fun x3 => some (⟨x0.1, x1.1, x2.1, x3.1⟩, x3.2)
noncomputable def rnumeric_fraction (l : List (AV U)) : Option (numeric_fraction × List (AV U)) := (rBool l).bind fun x0 => (rA4_u64 x0.2).bind fun x1 => (rA4_u64 x1.2).bind fun x2 => some (⟨x0.1, x1.1, x2.1⟩, x2.2)
noncomputable def ehardware_form (x : hardware_form) : List (AV U) := [.sc (.int .i64 x.fields), .sc (.int .i64 x.types)]
noncomputable def eruntime_boundsError (x : runtime_boundsError) : List (AV U) := [.sc (.int .i64 x.x), .sc (.int .i64 x.y), .sc (.bool x.signed), .sc (.int .u8 x.code)]
noncomputable def eruntime_errorAddressString (x : runtime_errorAddressString) : List (AV U) := [.sc (.string x.msg), .sc (.int .u64 x.addr)]
noncomputable def eHwModel (x : HwModel) : List (AV U) := [.sc (.int .i64 x.Registers), .sc (.bool x.Fused), .sc (.bool x.Memory)]
noncomputable def eStorage (x : Storage) : List (AV U) := [.sc (.string x.Bytes), .lst Ty.bool x.Tags]
noncomputable def eHwPlace (x : HwPlace) : List (AV U) := [.sc (.bool x.Based), .sc (.int .i64 x.Pointer), .sc (.int .i64 x.Offset)]
noncomputable def eDataType (x : DataType) : List (AV U) := [.sc (.int .i64 x.Kind), .sc (.int .i64 x.Length), .sc (.int .i64 x.Scale)]
noncomputable def eNumber (x : Number) : List (AV U) := [.sc (.int .i64 x.N), .sc (.int .i64 x.Scale)]
noncomputable def eHwInstruction (x : HwInstruction) : List (AV U) := [.sc (.int .i64 x.Op), .sc (.int .i64 x.R), .sc (.int .i64 x.A), .sc (.int .i64 x.B), .sc (.int .i64 x.Calculation), .sc (.bool x.Place.Based), .sc (.int .i64 x.Place.Pointer), .sc (.int .i64 x.Place.Offset), .sc (.bool x.From.Based), .sc (.int .i64 x.From.Pointer), .sc (.int .i64 x.From.Offset), .sc (.int .i64 x.Type_.Kind), .sc (.int .i64 x.Type_.Length), .sc (.int .i64 x.Type_.Scale), .sc (.int .i64 x.Second.Kind), .sc (.int .i64 x.Second.Length), .sc (.int .i64 x.Second.Scale), .sc (.bool x.Half), .sc (.bool x.InStorage), .sc (.int .i64 x.Number.N), .sc (.int .i64 x.Number.Scale), .sc (.string x.Text), .sc (.string x.Other), .sc (.int .i64 x.Mask), .sc (.int .i64 x.Target), .sc (.int .i64 x.Pointer), .sc (.int .i64 x.Source)]
noncomputable def eHwTrap (x : HwTrap) : List (AV U) := [.sc (.int .i64 x.From), .sc (.int .i64 x.To), .sc (.int .i64 x.Exception), .sc (.int .i64 x.Handler)]
noncomputable def eHwCode (x : HwCode) : List (AV U) := [.sc (.string x.Storage.Bytes), .lst Ty.bool x.Storage.Tags, .lst Ty.HwInstruction x.Instructions, .lst Ty.HwTrap x.Traps]
noncomputable def eHwResult (x : HwResult) : List (AV U) := [.lst Ty.str x.Lines, .sc (.int .i64 x.Status), .sc (.int .i64 x.Exception), .sc (.int .i64 x.Marks), .sc (.int .i64 x.Steps), .sc (.string x.Storage.Bytes), .lst Ty.bool x.Storage.Tags]
noncomputable def eValue (x : Value) : List (AV U) := [.sc (.int .i64 x.N), .sc (.string x.S)]
noncomputable def eMiOperand (x : MiOperand) : List (AV U) := [.sc (.string x.Name), .sc (.int .i64 x.Kind), .sc (.int .i64 x.Type_.Kind), .sc (.int .i64 x.Type_.Length), .sc (.int .i64 x.Type_.Scale), .sc (.int .i64 x.Value.N), .sc (.string x.Value.S), .sc (.string x.Base), .sc (.int .i64 x.Offset), .sc (.int .i64 x.Target)]
noncomputable def eMiInstruction (x : MiInstruction) : List (AV U) := [.sc (.int .i64 x.Op), .lst (Ty.int .i64) x.Args]
noncomputable def eMiMonitor (x : MiMonitor) : List (AV U) := [.sc (.int .i64 x.From), .sc (.int .i64 x.To), .sc (.int .i64 x.Exception), .sc (.int .i64 x.Handler)]
noncomputable def eMiProgram (x : MiProgram) : List (AV U) := [.lst Ty.MiOperand x.Operands, .lst Ty.MiInstruction x.Instructions, .lst Ty.MiMonitor x.Monitors]
noncomputable def eMiResult (x : MiResult) : List (AV U) := [.lst Ty.str x.Lines, .sc (.int .i64 x.Status), .sc (.int .i64 x.Exception), .sc (.int .i64 x.Steps)]
noncomputable def eHwState (x : HwState) : List (AV U) := [.lst Ty.Number x.Registers, .sc (.int .i64 x.Condition), .sc (.string x.Storage.Bytes), .lst Ty.bool x.Storage.Tags, .sc (.int .i64 x.At), .lst (Ty.int .i64) x.Stack, .lst Ty.str x.Lines, .sc (.int .i64 x.Status), .sc (.int .i64 x.Exception), .sc (.int .i64 x.Marks), .sc (.int .i64 x.Steps)]
noncomputable def eMiState (x : MiState) : List (AV U) := [.sc (.string x.Storage.Bytes), .lst Ty.bool x.Storage.Tags, .sc (.int .i64 x.At), .lst (Ty.int .i64) x.Stack, .lst Ty.str x.Lines, .sc (.int .i64 x.Status), .sc (.int .i64 x.Exception), .sc (.int .i64 x.Steps)]
noncomputable def eMiPlace (x : MiPlace) : List (AV U) := [.sc (.int .i64 x.Part), .sc (.int .i64 x.Index)]
noncomputable def eAddress (x : Address) : List (AV U) := [.sc (.int .i64 x.Segment), .sc (.int .i64 x.Offset)]
noncomputable def ePointer (x : Pointer) : List (AV U) := [.sc (.int .i64 x.Kind), .sc (.int .i64 x.Address.Segment), .sc (.int .i64 x.Address.Offset), .sc (.int .i64 x.Authority)]
noncomputable def eref15_fields (x : ref15_fields) : List (AV U) := [.sc (.bool x.R), .sc (.bool x.A), .sc (.bool x.B), .sc (.bool x.Place), .sc (.bool x.From), .sc (.bool x.Half), .sc (.bool x.Number), .sc (.bool x.Calculation), .sc (.bool x.Mask), .sc (.bool x.Target), .sc (.bool x.Text), .sc (.bool x.Other), .sc (.bool x.Pointer), .sc (.bool x.Source), .sc (.int .i64 x.Type_), .sc (.int .i64 x.Second)]
noncomputable def ehardware_machine (x : hardware_machine) : List (AV U) := [.lst Ty.Number x.HwState.Registers, .sc (.int .i64 x.HwState.Condition), .sc (.string x.HwState.Storage.Bytes), .lst Ty.bool x.HwState.Storage.Tags, .sc (.int .i64 x.HwState.At), .lst (Ty.int .i64) x.HwState.Stack, .lst Ty.str x.HwState.Lines, .sc (.int .i64 x.HwState.Status), .sc (.int .i64 x.HwState.Exception), .sc (.int .i64 x.HwState.Marks), .sc (.int .i64 x.HwState.Steps), .sc (.string x.code.Storage.Bytes), .lst Ty.bool x.code.Storage.Tags, .lst Ty.HwInstruction x.code.Instructions, .lst Ty.HwTrap x.code.Traps, .sc (.int .i64 x.raised)]
noncomputable def einterpret_machine (x : interpret_machine) : List (AV U) := [.lst Ty.MiOperand x.MiProgram.Operands, .lst Ty.MiInstruction x.MiProgram.Instructions, .lst Ty.MiMonitor x.MiProgram.Monitors, .sc (.string x.MiState.Storage.Bytes), .lst Ty.bool x.MiState.Storage.Tags, .sc (.int .i64 x.MiState.At), .lst (Ty.int .i64) x.MiState.Stack, .lst Ty.str x.MiState.Lines, .sc (.int .i64 x.MiState.Status), .sc (.int .i64 x.MiState.Exception), .sc (.int .i64 x.MiState.Steps), .lst (Ty.int .i64) x.layout, .sc (.int .i64 x.raised)]
noncomputable def eref01_Long (x : ref01_Long) : List (AV U) := [.sc (.bool x.Below), .lst (Ty.int .i64) x.Digits]
noncomputable def eref01_Request (x : ref01_Request) : List (AV U) := [.sc (.int .i64 x.Op), .sc (.int .i64 x.Type_.Kind), .sc (.int .i64 x.Type_.Length), .sc (.int .i64 x.Type_.Scale), .sc (.bool x.Half)]
noncomputable def eref01_Fraction (x : ref01_Fraction) : List (AV U) := [.sc (.bool x.Top.Below), .lst (Ty.int .i64) x.Top.Digits, .lst (Ty.int .i64) x.Bottom]
noncomputable def eA4_u64 (x : A4_u64) : List (AV U) := [.sc (.int .u64 x.e0), .sc (.int .u64 x.e1), .sc (.int .u64 x.e2), .sc (.int .u64 x.e3)]
noncomputable def enumeric_fraction (x : numeric_fraction) : List (AV U) := [.sc (.bool x.below), .sc (.int .u64 x.amount.e0), .sc (.int .u64 x.amount.e1), .sc (.int .u64 x.amount.e2), .sc (.int .u64 x.amount.e3), .sc (.int .u64 x.division.e0), .sc (.int .u64 x.division.e1), .sc (.int .u64 x.division.e2), .sc (.int .u64 x.division.e3)]
noncomputable def encSt : (n : Nat) → stDen n → List (AV U)
  | 0, x => ehardware_form x
  | 1, x => eruntime_boundsError x
  | 2, x => eruntime_errorAddressString x
  | 3, x => eHwModel x
  | 4, x => eStorage x
  | 5, x => eHwPlace x
  | 6, x => eDataType x
  | 7, x => eNumber x
  | 8, x => eHwInstruction x
  | 9, x => eHwTrap x
  | 10, x => eHwCode x
  | 11, x => eHwResult x
  | 12, x => eValue x
  | 13, x => eMiOperand x
  | 14, x => eMiInstruction x
  | 15, x => eMiMonitor x
  | 16, x => eMiProgram x
  | 17, x => eMiResult x
  | 18, x => eHwState x
  | 19, x => eMiState x
  | 20, x => eMiPlace x
  | 21, x => eAddress x
  | 22, x => ePointer x
  | 23, x => eref15_fields x
  | 24, x => ehardware_machine x
  | 25, x => einterpret_machine x
  | 26, x => eref01_Long x
  | 27, x => eref01_Request x
  | 28, x => eref01_Fraction x
  | 29, x => eA4_u64 x
  | 30, x => enumeric_fraction x
  | _ + 31, _ => [.sc (.bool true)]
noncomputable def rdSt : (n : Nat) → List (AV U) → Option (stDen n × List (AV U))
  | 0, l => rhardware_form l
  | 1, l => rruntime_boundsError l
  | 2, l => rruntime_errorAddressString l
  | 3, l => rHwModel l
  | 4, l => rStorage l
  | 5, l => rHwPlace l
  | 6, l => rDataType l
  | 7, l => rNumber l
  | 8, l => rHwInstruction l
  | 9, l => rHwTrap l
  | 10, l => rHwCode l
  | 11, l => rHwResult l
  | 12, l => rValue l
  | 13, l => rMiOperand l
  | 14, l => rMiInstruction l
  | 15, l => rMiMonitor l
  | 16, l => rMiProgram l
  | 17, l => rMiResult l
  | 18, l => rHwState l
  | 19, l => rMiState l
  | 20, l => rMiPlace l
  | 21, l => rAddress l
  | 22, l => rPointer l
  | 23, l => rref15_fields l
  | 24, l => rhardware_machine l
  | 25, l => rinterpret_machine l
  | 26, l => rref01_Long l
  | 27, l => rref01_Request l
  | 28, l => rref01_Fraction l
  | 29, l => rA4_u64 l
  | 30, l => rnumeric_fraction l
  | _ + 31, _ => none
noncomputable def enc : (t : Ty) → den t → List (AV U)
  | .int k, n => [.sc (.int k n)]
  | .bool, b => [.sc (.bool b)]
  | .str, s => [.sc (.string s)]
  | .nil, _ => [.sc (.slice none 0 0)]
  | .sl t, xs => [.lst t xs]
  | .st n, x => encSt n x
noncomputable def rd : (t : Ty) → List (AV U) → Option (den t × List (AV U))
  | .int k, l => rInt k l
  | .bool, l => rBool l
  | .str, l => rStr l
  | .nil, l => rNil l
  | .sl t, l => rSl t l
  | .st n, l => rdSt n l
noncomputable def reify (t : Ty) (l : List (AV U)) : Option (den t) := (rd t l).bind fun r => match r.2 with
  | [] => some r.1
  | _ => none
noncomputable def szSt : Nat → Nat
  | 0 => 2
  | 1 => 4
  | 2 => 2
  | 3 => 3
  | 4 => 2
  | 5 => 3
  | 6 => 3
  | 7 => 2
  | 8 => 27
  | 9 => 4
  | 10 => 4
  | 11 => 7
  | 12 => 2
  | 13 => 10
  | 14 => 2
  | 15 => 4
  | 16 => 3
  | 17 => 4
  | 18 => 11
  | 19 => 8
  | 20 => 2
  | 21 => 2
  | 22 => 4
  | 23 => 16
  | 24 => 16
  | 25 => 13
  | 26 => 2
  | 27 => 5
  | 28 => 3
  | 29 => 4
  | 30 => 9
  | _ + 31 => 1
noncomputable def flatSt : Nat → Bool
  | 0 => true
  | 1 => true
  | 2 => true
  | 3 => true
  | 4 => false
  | 5 => true
  | 6 => true
  | 7 => true
  | 8 => true
  | 9 => true
  | 10 => false
  | 11 => false
  | 12 => true
  | 13 => true
  | 14 => false
  | 15 => true
  | 16 => false
  | 17 => false
  | 18 => false
  | 19 => false
  | 20 => true
  | 21 => true
  | 22 => true
  | 23 => true
  | 24 => false
  | 25 => false
  | 26 => false
  | 27 => true
  | 28 => false
  | 29 => true
  | 30 => true
  | _ + 31 => true
noncomputable def szT : Ty → Nat
  | .st n => szSt n
  | _ => 1
noncomputable def aggT : Ty → Bool
  | .st _ => true
  | _ => false
noncomputable def flatT : Ty → Bool
  | .sl _ => false
  | .st n => flatSt n
  | _ => true
noncomputable def goTys : List (Nat × Ty) := [(2, (Ty.int .i64)), (3, (Ty.int .i64)), (4, Ty.bool), (5, (Ty.int .u8)), (6, (Ty.int .u8)), (8, Ty.runtime_boundsError), (9, Ty.str), (10, Ty.str), (11, Ty.str), (12, (Ty.int .u64)), (14, Ty.runtime_errorAddressString), (21, (Ty.int .i32)), (23, Ty.HwModel), (24, (Ty.sl Ty.bool)), (26, Ty.Storage), (27, (Ty.sl Ty.HwInstruction)), (28, (Ty.sl Ty.HwTrap)), (30, Ty.HwCode), (33, (Ty.int .i64)), (42, (Ty.sl Ty.str)), (44, Ty.HwResult), (54, (Ty.sl Ty.MiOperand)), (55, (Ty.sl Ty.MiInstruction)), (56, (Ty.sl Ty.MiMonitor)), (58, Ty.MiProgram), (61, Ty.MiResult), (68, (Ty.sl Ty.Number)), (69, (Ty.sl (Ty.int .i64))), (71, Ty.HwState), (84, Ty.Number), (89, Ty.HwPlace), (91, Ty.DataType), (93, Ty.HwInstruction), (101, Ty.HwTrap), (117, Ty.Value), (119, Ty.MiOperand), (121, Ty.MiInstruction), (123, Ty.MiState), (128, Ty.MiPlace), (142, Ty.Address), (144, Ty.Pointer), (154, (Ty.sl (Ty.int .i64))), (159, Ty.hardware_form), (164, Ty.ref15_fields), (173, Ty.hardware_machine), (186, Ty.MiMonitor), (203, (Ty.sl (Ty.int .u8))), (224, Ty.interpret_machine), (248, Ty.ref01_Long), (262, Ty.ref01_Request), (263, (Ty.int .u64)), (312, Ty.ref01_Fraction), (321, (Ty.int .u64)), (322, Ty.A4_u64), (323, Ty.A4_u64), (325, Ty.numeric_fraction), (348, (Ty.int .i8)), (374, (Ty.int .u32)), (383, (Ty.sl (Ty.sl (Ty.int .u8)))), (405, (Ty.int .u8)), (406, (Ty.int .u8)), (408, (Ty.int .i32)), (409, (Ty.int .i32))]
noncomputable def En : Enc U := { sz := szT, agg := aggT, flat := flatT, enc := enc, reify := reify, ofGo := pick goTys, sl := Ty.sl, toSl := fun _ xs => xs, ofSl := fun _ xs => xs, u8 := .int .u8, ofInts := fun l => l, toInts := fun l => l }
noncomputable def glob0 : List hardware_form := [⟨41, 1⟩, ⟨169, 1⟩, ⟨257, 0⟩, ⟨3, 0⟩, ⟨32807, 1⟩, ⟨6, 0⟩, ⟨6144, 0⟩, ⟨6150, 0⟩, ⟨4096, 0⟩, ⟨120, 2⟩, ⟨552, 2⟩, ⟨120, 2⟩, ⟨552, 2⟩, ⟨1536, 0⟩, ⟨8232, 3⟩, ⟨24576, 0⟩, ⟨8193, 0⟩, ⟨8192, 0⟩, ⟨4096, 0⟩, ⟨0, 0⟩, ⟨1, 0⟩, ⟨1, 0⟩, ⟨1, 0⟩, ⟨40, 2⟩, ⟨512, 0⟩, ⟨0, 0⟩, ⟨0, 0⟩]
noncomputable def glob3 : List Int := [1, 10, 100, 1000, 10000, 100000, 1000000, 10000000, 100000000, 1000000000, 10000000000, 100000000000, 1000000000000, 10000000000000, 100000000000000, 1000000000000000, 10000000000000000, 100000000000000000, 1000000000000000000, 10000000000000000000]
noncomputable def glob4 : List Int := [0, 1, 28, 2, 29, 14, 24, 3, 30, 22, 20, 15, 25, 17, 4, 8, 31, 27, 13, 23, 21, 19, 16, 7, 26, 12, 18, 6, 11, 5, 10, 9]
noncomputable def glob5 : List Int := [0, 1, 56, 2, 57, 49, 28, 3, 61, 58, 42, 50, 38, 29, 17, 4, 62, 47, 59, 36, 45, 43, 51, 22, 53, 39, 33, 30, 24, 18, 12, 5, 63, 55, 48, 27, 60, 41, 37, 16, 46, 35, 44, 21, 52, 32, 23, 11, 54, 26, 40, 15, 34, 20, 31, 10, 25, 14, 19, 9, 13, 8, 7, 6]
noncomputable def globs : List (Nat × AV U) := [(0, .rarr Ty.hardware_form glob0), (3, .rarr (Ty.int .u64) glob3), (4, .rarr (Ty.int .u8) glob4), (5, .rarr (Ty.int .u8) glob5)]
noncomputable def mkCx (O : List (Nat × Ct U)) (X : List (Nat × Nat)) (J : List (Nat × Amx.Spec U × List Ty)) (pre : List (Nat × List Nat)) (lits ro pk bj : List Nat) : Ctx U :=
  { P := Proofs.Tryz.prog, En := En, G := pick globs, O := pick O, X := pick X, joins := pick J, pre := fun r => (pick pre r).getD [], lits := lits, ro := ro, pk := pk, bj := bj }
theorem sp_int (k : IntKind) : Sp (U := U) (rInt k) (fun n : Int => [.sc (.int k n)]) := fun l x r h => by
  unfold rInt at h
  split at h
  · split at h
    · rename_i e; cases h; subst e; exact ⟨[_], rfl, F2.refl_ref _⟩
    · cases h
  · cases h
theorem sp_bool : Sp (U := U) rBool (fun b : Bool => [.sc (.bool b)]) := fun l x r h => by
  unfold rBool at h
  split at h
  · cases h; exact ⟨[_], rfl, F2.refl_ref _⟩
  · cases h
theorem sp_str : Sp (U := U) rStr (fun s : ByteArray => [.sc (.string s)]) := fun l x r h => by
  unfold rStr at h
  split at h
  · cases h; exact ⟨[_], rfl, F2.refl_ref _⟩
  · cases h
theorem sp_nil : Sp (U := U) rNil (fun _ : Unit => [.sc (.slice none 0 0)]) := fun l x r h => by
  unfold rNil at h
  split at h
  · cases h; exact ⟨[_], rfl, F2.refl_ref _⟩
  · cases h
theorem sp_sl (t : Ty) : Sp (U := U) (rSl t) (fun xs : List (den t) => [.lst t xs]) := fun l x r h => by
  unfold rSl at h
  split at h
  · rw [Option.map_eq_some_iff] at h
    obtain ⟨⟨e⟩, _, h2⟩ := h
    cases e
    cases h2
    exact ⟨[_], rfl, F2.refl_ref _⟩
  · cases h
    exact ⟨[_], rfl, .cons (.inr ⟨rfl, _, rfl⟩) .nil⟩
  · cases h
theorem sp_hardware_form : Sp (U := U) rhardware_form ehardware_form := fun l x r h => by
  unfold rhardware_form at h
  obtain ⟨x0, r0, p0, e0, f0, h⟩ := (sp_int .i64).step h
  obtain ⟨x1, r1, p1, e1, f1, h⟩ := (sp_int .i64).step h
  have e1 : r0 = p1 ++ r1 := e1
  cases h
  exact ⟨(p0 ++ p1), by rw [e0, e1]; simp only [List.append_assoc], (f0.append f1)⟩
theorem sp_runtime_boundsError : Sp (U := U) rruntime_boundsError eruntime_boundsError := fun l x r h => by
  unfold rruntime_boundsError at h
  obtain ⟨x0, r0, p0, e0, f0, h⟩ := (sp_int .i64).step h
  obtain ⟨x1, r1, p1, e1, f1, h⟩ := (sp_int .i64).step h
  have e1 : r0 = p1 ++ r1 := e1
  obtain ⟨x2, r2, p2, e2, f2, h⟩ := sp_bool.step h
  have e2 : r1 = p2 ++ r2 := e2
  obtain ⟨x3, r3, p3, e3, f3, h⟩ := (sp_int .u8).step h
  have e3 : r2 = p3 ++ r3 := e3
  cases h
  exact ⟨(p0 ++ (p1 ++ (p2 ++ p3))), by rw [e0, e1, e2, e3]; simp only [List.append_assoc], (f0.append (f1.append (f2.append f3)))⟩
theorem sp_runtime_errorAddressString : Sp (U := U) rruntime_errorAddressString eruntime_errorAddressString := fun l x r h => by
  unfold rruntime_errorAddressString at h
  obtain ⟨x0, r0, p0, e0, f0, h⟩ := sp_str.step h
  obtain ⟨x1, r1, p1, e1, f1, h⟩ := (sp_int .u64).step h
  have e1 : r0 = p1 ++ r1 := e1
  cases h
  exact ⟨(p0 ++ p1), by rw [e0, e1]; simp only [List.append_assoc], (f0.append f1)⟩
theorem sp_HwModel : Sp (U := U) rHwModel eHwModel := fun l x r h => by
  unfold rHwModel at h
  obtain ⟨x0, r0, p0, e0, f0, h⟩ := (sp_int .i64).step h
  obtain ⟨x1, r1, p1, e1, f1, h⟩ := sp_bool.step h
  have e1 : r0 = p1 ++ r1 := e1
  obtain ⟨x2, r2, p2, e2, f2, h⟩ := sp_bool.step h
  have e2 : r1 = p2 ++ r2 := e2
  cases h
  exact ⟨(p0 ++ (p1 ++ p2)), by rw [e0, e1, e2]; simp only [List.append_assoc], (f0.append (f1.append f2))⟩
theorem sp_Storage : Sp (U := U) rStorage eStorage := fun l x r h => by
  unfold rStorage at h
  obtain ⟨x0, r0, p0, e0, f0, h⟩ := sp_str.step h
  obtain ⟨x1, r1, p1, e1, f1, h⟩ := (sp_sl Ty.bool).step h
  have e1 : r0 = p1 ++ r1 := e1
  cases h
  exact ⟨(p0 ++ p1), by rw [e0, e1]; simp only [List.append_assoc], (f0.append f1)⟩
theorem sp_HwPlace : Sp (U := U) rHwPlace eHwPlace := fun l x r h => by
  unfold rHwPlace at h
  obtain ⟨x0, r0, p0, e0, f0, h⟩ := sp_bool.step h
  obtain ⟨x1, r1, p1, e1, f1, h⟩ := (sp_int .i64).step h
  have e1 : r0 = p1 ++ r1 := e1
  obtain ⟨x2, r2, p2, e2, f2, h⟩ := (sp_int .i64).step h
  have e2 : r1 = p2 ++ r2 := e2
  cases h
  exact ⟨(p0 ++ (p1 ++ p2)), by rw [e0, e1, e2]; simp only [List.append_assoc], (f0.append (f1.append f2))⟩
theorem sp_DataType : Sp (U := U) rDataType eDataType := fun l x r h => by
  unfold rDataType at h
  obtain ⟨x0, r0, p0, e0, f0, h⟩ := (sp_int .i64).step h
  obtain ⟨x1, r1, p1, e1, f1, h⟩ := (sp_int .i64).step h
  have e1 : r0 = p1 ++ r1 := e1
  obtain ⟨x2, r2, p2, e2, f2, h⟩ := (sp_int .i64).step h
  have e2 : r1 = p2 ++ r2 := e2
  cases h
  exact ⟨(p0 ++ (p1 ++ p2)), by rw [e0, e1, e2]; simp only [List.append_assoc], (f0.append (f1.append f2))⟩
theorem sp_Number : Sp (U := U) rNumber eNumber := fun l x r h => by
  unfold rNumber at h
  obtain ⟨x0, r0, p0, e0, f0, h⟩ := (sp_int .i64).step h
  obtain ⟨x1, r1, p1, e1, f1, h⟩ := (sp_int .i64).step h
  have e1 : r0 = p1 ++ r1 := e1
  cases h
  exact ⟨(p0 ++ p1), by rw [e0, e1]; simp only [List.append_assoc], (f0.append f1)⟩
theorem sp_HwInstruction : Sp (U := U) rHwInstruction eHwInstruction := fun l x r h => by
  unfold rHwInstruction at h
  obtain ⟨x0, r0, p0, e0, f0, h⟩ := (sp_int .i64).step h
  obtain ⟨x1, r1, p1, e1, f1, h⟩ := (sp_int .i64).step h
  have e1 : r0 = p1 ++ r1 := e1
  obtain ⟨x2, r2, p2, e2, f2, h⟩ := (sp_int .i64).step h
  have e2 : r1 = p2 ++ r2 := e2
  obtain ⟨x3, r3, p3, e3, f3, h⟩ := (sp_int .i64).step h
  have e3 : r2 = p3 ++ r3 := e3
  obtain ⟨x4, r4, p4, e4, f4, h⟩ := (sp_int .i64).step h
  have e4 : r3 = p4 ++ r4 := e4
  obtain ⟨x5, r5, p5, e5, f5, h⟩ := sp_HwPlace.step h
  have e5 : r4 = p5 ++ r5 := e5
  obtain ⟨x6, r6, p6, e6, f6, h⟩ := sp_HwPlace.step h
  have e6 : r5 = p6 ++ r6 := e6
  obtain ⟨x7, r7, p7, e7, f7, h⟩ := sp_DataType.step h
  have e7 : r6 = p7 ++ r7 := e7
  obtain ⟨x8, r8, p8, e8, f8, h⟩ := sp_DataType.step h
  have e8 : r7 = p8 ++ r8 := e8
  obtain ⟨x9, r9, p9, e9, f9, h⟩ := sp_bool.step h
  have e9 : r8 = p9 ++ r9 := e9
  obtain ⟨x10, r10, p10, e10, f10, h⟩ := sp_bool.step h
  have e10 : r9 = p10 ++ r10 := e10
  obtain ⟨x11, r11, p11, e11, f11, h⟩ := sp_Number.step h
  have e11 : r10 = p11 ++ r11 := e11
  obtain ⟨x12, r12, p12, e12, f12, h⟩ := sp_str.step h
  have e12 : r11 = p12 ++ r12 := e12
  obtain ⟨x13, r13, p13, e13, f13, h⟩ := sp_str.step h
  have e13 : r12 = p13 ++ r13 := e13
  obtain ⟨x14, r14, p14, e14, f14, h⟩ := (sp_int .i64).step h
  have e14 : r13 = p14 ++ r14 := e14
  obtain ⟨x15, r15, p15, e15, f15, h⟩ := (sp_int .i64).step h
  have e15 : r14 = p15 ++ r15 := e15
  obtain ⟨x16, r16, p16, e16, f16, h⟩ := (sp_int .i64).step h
  have e16 : r15 = p16 ++ r16 := e16
  obtain ⟨x17, r17, p17, e17, f17, h⟩ := (sp_int .i64).step h
  have e17 : r16 = p17 ++ r17 := e17
  cases h
  exact ⟨(p0 ++ (p1 ++ (p2 ++ (p3 ++ (p4 ++ (p5 ++ (p6 ++ (p7 ++ (p8 ++ (p9 ++ (p10 ++ (p11 ++ (p12 ++ (p13 ++ (p14 ++ (p15 ++ (p16 ++ p17))))))))))))))))), by rw [e0, e1, e2, e3, e4, e5, e6, e7, e8, e9, e10, e11, e12, e13, e14, e15, e16, e17]; simp only [List.append_assoc], (f0.append (f1.append (f2.append (f3.append (f4.append (f5.append (f6.append (f7.append (f8.append (f9.append (f10.append (f11.append (f12.append (f13.append (f14.append (f15.append (f16.append f17)))))))))))))))))⟩
theorem sp_HwTrap : Sp (U := U) rHwTrap eHwTrap := fun l x r h => by
  unfold rHwTrap at h
  obtain ⟨x0, r0, p0, e0, f0, h⟩ := (sp_int .i64).step h
  obtain ⟨x1, r1, p1, e1, f1, h⟩ := (sp_int .i64).step h
  have e1 : r0 = p1 ++ r1 := e1
  obtain ⟨x2, r2, p2, e2, f2, h⟩ := (sp_int .i64).step h
  have e2 : r1 = p2 ++ r2 := e2
  obtain ⟨x3, r3, p3, e3, f3, h⟩ := (sp_int .i64).step h
  have e3 : r2 = p3 ++ r3 := e3
  cases h
  exact ⟨(p0 ++ (p1 ++ (p2 ++ p3))), by rw [e0, e1, e2, e3]; simp only [List.append_assoc], (f0.append (f1.append (f2.append f3)))⟩
theorem sp_HwCode : Sp (U := U) rHwCode eHwCode := fun l x r h => by
  unfold rHwCode at h
  obtain ⟨x0, r0, p0, e0, f0, h⟩ := sp_Storage.step h
  obtain ⟨x1, r1, p1, e1, f1, h⟩ := (sp_sl Ty.HwInstruction).step h
  have e1 : r0 = p1 ++ r1 := e1
  obtain ⟨x2, r2, p2, e2, f2, h⟩ := (sp_sl Ty.HwTrap).step h
  have e2 : r1 = p2 ++ r2 := e2
  cases h
  exact ⟨(p0 ++ (p1 ++ p2)), by rw [e0, e1, e2]; simp only [List.append_assoc], (f0.append (f1.append f2))⟩
theorem sp_HwResult : Sp (U := U) rHwResult eHwResult := fun l x r h => by
  unfold rHwResult at h
  obtain ⟨x0, r0, p0, e0, f0, h⟩ := (sp_sl Ty.str).step h
  obtain ⟨x1, r1, p1, e1, f1, h⟩ := (sp_int .i64).step h
  have e1 : r0 = p1 ++ r1 := e1
  obtain ⟨x2, r2, p2, e2, f2, h⟩ := (sp_int .i64).step h
  have e2 : r1 = p2 ++ r2 := e2
  obtain ⟨x3, r3, p3, e3, f3, h⟩ := (sp_int .i64).step h
  have e3 : r2 = p3 ++ r3 := e3
  obtain ⟨x4, r4, p4, e4, f4, h⟩ := (sp_int .i64).step h
  have e4 : r3 = p4 ++ r4 := e4
  obtain ⟨x5, r5, p5, e5, f5, h⟩ := sp_Storage.step h
  have e5 : r4 = p5 ++ r5 := e5
  cases h
  exact ⟨(p0 ++ (p1 ++ (p2 ++ (p3 ++ (p4 ++ p5))))), by rw [e0, e1, e2, e3, e4, e5]; simp only [List.append_assoc], (f0.append (f1.append (f2.append (f3.append (f4.append f5)))))⟩
theorem sp_Value : Sp (U := U) rValue eValue := fun l x r h => by
  unfold rValue at h
  obtain ⟨x0, r0, p0, e0, f0, h⟩ := (sp_int .i64).step h
  obtain ⟨x1, r1, p1, e1, f1, h⟩ := sp_str.step h
  have e1 : r0 = p1 ++ r1 := e1
  cases h
  exact ⟨(p0 ++ p1), by rw [e0, e1]; simp only [List.append_assoc], (f0.append f1)⟩
theorem sp_MiOperand : Sp (U := U) rMiOperand eMiOperand := fun l x r h => by
  unfold rMiOperand at h
  obtain ⟨x0, r0, p0, e0, f0, h⟩ := sp_str.step h
  obtain ⟨x1, r1, p1, e1, f1, h⟩ := (sp_int .i64).step h
  have e1 : r0 = p1 ++ r1 := e1
  obtain ⟨x2, r2, p2, e2, f2, h⟩ := sp_DataType.step h
  have e2 : r1 = p2 ++ r2 := e2
  obtain ⟨x3, r3, p3, e3, f3, h⟩ := sp_Value.step h
  have e3 : r2 = p3 ++ r3 := e3
  obtain ⟨x4, r4, p4, e4, f4, h⟩ := sp_str.step h
  have e4 : r3 = p4 ++ r4 := e4
  obtain ⟨x5, r5, p5, e5, f5, h⟩ := (sp_int .i64).step h
  have e5 : r4 = p5 ++ r5 := e5
  obtain ⟨x6, r6, p6, e6, f6, h⟩ := (sp_int .i64).step h
  have e6 : r5 = p6 ++ r6 := e6
  cases h
  exact ⟨(p0 ++ (p1 ++ (p2 ++ (p3 ++ (p4 ++ (p5 ++ p6)))))), by rw [e0, e1, e2, e3, e4, e5, e6]; simp only [List.append_assoc], (f0.append (f1.append (f2.append (f3.append (f4.append (f5.append f6))))))⟩
theorem sp_MiInstruction : Sp (U := U) rMiInstruction eMiInstruction := fun l x r h => by
  unfold rMiInstruction at h
  obtain ⟨x0, r0, p0, e0, f0, h⟩ := (sp_int .i64).step h
  obtain ⟨x1, r1, p1, e1, f1, h⟩ := (sp_sl (Ty.int .i64)).step h
  have e1 : r0 = p1 ++ r1 := e1
  cases h
  exact ⟨(p0 ++ p1), by rw [e0, e1]; simp only [List.append_assoc], (f0.append f1)⟩
theorem sp_MiMonitor : Sp (U := U) rMiMonitor eMiMonitor := fun l x r h => by
  unfold rMiMonitor at h
  obtain ⟨x0, r0, p0, e0, f0, h⟩ := (sp_int .i64).step h
  obtain ⟨x1, r1, p1, e1, f1, h⟩ := (sp_int .i64).step h
  have e1 : r0 = p1 ++ r1 := e1
  obtain ⟨x2, r2, p2, e2, f2, h⟩ := (sp_int .i64).step h
  have e2 : r1 = p2 ++ r2 := e2
  obtain ⟨x3, r3, p3, e3, f3, h⟩ := (sp_int .i64).step h
  have e3 : r2 = p3 ++ r3 := e3
  cases h
  exact ⟨(p0 ++ (p1 ++ (p2 ++ p3))), by rw [e0, e1, e2, e3]; simp only [List.append_assoc], (f0.append (f1.append (f2.append f3)))⟩
theorem sp_MiProgram : Sp (U := U) rMiProgram eMiProgram := fun l x r h => by
  unfold rMiProgram at h
  obtain ⟨x0, r0, p0, e0, f0, h⟩ := (sp_sl Ty.MiOperand).step h
  obtain ⟨x1, r1, p1, e1, f1, h⟩ := (sp_sl Ty.MiInstruction).step h
  have e1 : r0 = p1 ++ r1 := e1
  obtain ⟨x2, r2, p2, e2, f2, h⟩ := (sp_sl Ty.MiMonitor).step h
  have e2 : r1 = p2 ++ r2 := e2
  cases h
  exact ⟨(p0 ++ (p1 ++ p2)), by rw [e0, e1, e2]; simp only [List.append_assoc], (f0.append (f1.append f2))⟩
theorem sp_MiResult : Sp (U := U) rMiResult eMiResult := fun l x r h => by
  unfold rMiResult at h
  obtain ⟨x0, r0, p0, e0, f0, h⟩ := (sp_sl Ty.str).step h
  obtain ⟨x1, r1, p1, e1, f1, h⟩ := (sp_int .i64).step h
  have e1 : r0 = p1 ++ r1 := e1
  obtain ⟨x2, r2, p2, e2, f2, h⟩ := (sp_int .i64).step h
  have e2 : r1 = p2 ++ r2 := e2
  obtain ⟨x3, r3, p3, e3, f3, h⟩ := (sp_int .i64).step h
  have e3 : r2 = p3 ++ r3 := e3
  cases h
  exact ⟨(p0 ++ (p1 ++ (p2 ++ p3))), by rw [e0, e1, e2, e3]; simp only [List.append_assoc], (f0.append (f1.append (f2.append f3)))⟩
theorem sp_HwState : Sp (U := U) rHwState eHwState := fun l x r h => by
  unfold rHwState at h
  obtain ⟨x0, r0, p0, e0, f0, h⟩ := (sp_sl Ty.Number).step h
  obtain ⟨x1, r1, p1, e1, f1, h⟩ := (sp_int .i64).step h
  have e1 : r0 = p1 ++ r1 := e1
  obtain ⟨x2, r2, p2, e2, f2, h⟩ := sp_Storage.step h
  have e2 : r1 = p2 ++ r2 := e2
  obtain ⟨x3, r3, p3, e3, f3, h⟩ := (sp_int .i64).step h
  have e3 : r2 = p3 ++ r3 := e3
  obtain ⟨x4, r4, p4, e4, f4, h⟩ := (sp_sl (Ty.int .i64)).step h
  have e4 : r3 = p4 ++ r4 := e4
  obtain ⟨x5, r5, p5, e5, f5, h⟩ := (sp_sl Ty.str).step h
  have e5 : r4 = p5 ++ r5 := e5
  obtain ⟨x6, r6, p6, e6, f6, h⟩ := (sp_int .i64).step h
  have e6 : r5 = p6 ++ r6 := e6
  obtain ⟨x7, r7, p7, e7, f7, h⟩ := (sp_int .i64).step h
  have e7 : r6 = p7 ++ r7 := e7
  obtain ⟨x8, r8, p8, e8, f8, h⟩ := (sp_int .i64).step h
  have e8 : r7 = p8 ++ r8 := e8
  obtain ⟨x9, r9, p9, e9, f9, h⟩ := (sp_int .i64).step h
  have e9 : r8 = p9 ++ r9 := e9
  cases h
  exact ⟨(p0 ++ (p1 ++ (p2 ++ (p3 ++ (p4 ++ (p5 ++ (p6 ++ (p7 ++ (p8 ++ p9))))))))), by rw [e0, e1, e2, e3, e4, e5, e6, e7, e8, e9]; simp only [List.append_assoc], (f0.append (f1.append (f2.append (f3.append (f4.append (f5.append (f6.append (f7.append (f8.append f9)))))))))⟩
theorem sp_MiState : Sp (U := U) rMiState eMiState := fun l x r h => by
  unfold rMiState at h
  obtain ⟨x0, r0, p0, e0, f0, h⟩ := sp_Storage.step h
  obtain ⟨x1, r1, p1, e1, f1, h⟩ := (sp_int .i64).step h
  have e1 : r0 = p1 ++ r1 := e1
  obtain ⟨x2, r2, p2, e2, f2, h⟩ := (sp_sl (Ty.int .i64)).step h
  have e2 : r1 = p2 ++ r2 := e2
  obtain ⟨x3, r3, p3, e3, f3, h⟩ := (sp_sl Ty.str).step h
  have e3 : r2 = p3 ++ r3 := e3
  obtain ⟨x4, r4, p4, e4, f4, h⟩ := (sp_int .i64).step h
  have e4 : r3 = p4 ++ r4 := e4
  obtain ⟨x5, r5, p5, e5, f5, h⟩ := (sp_int .i64).step h
  have e5 : r4 = p5 ++ r5 := e5
  obtain ⟨x6, r6, p6, e6, f6, h⟩ := (sp_int .i64).step h
  have e6 : r5 = p6 ++ r6 := e6
  cases h
  exact ⟨(p0 ++ (p1 ++ (p2 ++ (p3 ++ (p4 ++ (p5 ++ p6)))))), by rw [e0, e1, e2, e3, e4, e5, e6]; simp only [List.append_assoc], (f0.append (f1.append (f2.append (f3.append (f4.append (f5.append f6))))))⟩
theorem sp_MiPlace : Sp (U := U) rMiPlace eMiPlace := fun l x r h => by
  unfold rMiPlace at h
  obtain ⟨x0, r0, p0, e0, f0, h⟩ := (sp_int .i64).step h
  obtain ⟨x1, r1, p1, e1, f1, h⟩ := (sp_int .i64).step h
  have e1 : r0 = p1 ++ r1 := e1
  cases h
  exact ⟨(p0 ++ p1), by rw [e0, e1]; simp only [List.append_assoc], (f0.append f1)⟩
theorem sp_Address : Sp (U := U) rAddress eAddress := fun l x r h => by
  unfold rAddress at h
  obtain ⟨x0, r0, p0, e0, f0, h⟩ := (sp_int .i64).step h
  obtain ⟨x1, r1, p1, e1, f1, h⟩ := (sp_int .i64).step h
  have e1 : r0 = p1 ++ r1 := e1
  cases h
  exact ⟨(p0 ++ p1), by rw [e0, e1]; simp only [List.append_assoc], (f0.append f1)⟩
theorem sp_Pointer : Sp (U := U) rPointer ePointer := fun l x r h => by
  unfold rPointer at h
  obtain ⟨x0, r0, p0, e0, f0, h⟩ := (sp_int .i64).step h
  obtain ⟨x1, r1, p1, e1, f1, h⟩ := sp_Address.step h
  have e1 : r0 = p1 ++ r1 := e1
  obtain ⟨x2, r2, p2, e2, f2, h⟩ := (sp_int .i64).step h
  have e2 : r1 = p2 ++ r2 := e2
  cases h
  exact ⟨(p0 ++ (p1 ++ p2)), by rw [e0, e1, e2]; simp only [List.append_assoc], (f0.append (f1.append f2))⟩
theorem sp_ref15_fields : Sp (U := U) rref15_fields eref15_fields := fun l x r h => by
  unfold rref15_fields at h
  obtain ⟨x0, r0, p0, e0, f0, h⟩ := sp_bool.step h
  obtain ⟨x1, r1, p1, e1, f1, h⟩ := sp_bool.step h
  have e1 : r0 = p1 ++ r1 := e1
  obtain ⟨x2, r2, p2, e2, f2, h⟩ := sp_bool.step h
  have e2 : r1 = p2 ++ r2 := e2
  obtain ⟨x3, r3, p3, e3, f3, h⟩ := sp_bool.step h
  have e3 : r2 = p3 ++ r3 := e3
  obtain ⟨x4, r4, p4, e4, f4, h⟩ := sp_bool.step h
  have e4 : r3 = p4 ++ r4 := e4
  obtain ⟨x5, r5, p5, e5, f5, h⟩ := sp_bool.step h
  have e5 : r4 = p5 ++ r5 := e5
  obtain ⟨x6, r6, p6, e6, f6, h⟩ := sp_bool.step h
  have e6 : r5 = p6 ++ r6 := e6
  obtain ⟨x7, r7, p7, e7, f7, h⟩ := sp_bool.step h
  have e7 : r6 = p7 ++ r7 := e7
  obtain ⟨x8, r8, p8, e8, f8, h⟩ := sp_bool.step h
  have e8 : r7 = p8 ++ r8 := e8
  obtain ⟨x9, r9, p9, e9, f9, h⟩ := sp_bool.step h
  have e9 : r8 = p9 ++ r9 := e9
  obtain ⟨x10, r10, p10, e10, f10, h⟩ := sp_bool.step h
  have e10 : r9 = p10 ++ r10 := e10
  obtain ⟨x11, r11, p11, e11, f11, h⟩ := sp_bool.step h
  have e11 : r10 = p11 ++ r11 := e11
  obtain ⟨x12, r12, p12, e12, f12, h⟩ := sp_bool.step h
  have e12 : r11 = p12 ++ r12 := e12
  obtain ⟨x13, r13, p13, e13, f13, h⟩ := sp_bool.step h
  have e13 : r12 = p13 ++ r13 := e13
  obtain ⟨x14, r14, p14, e14, f14, h⟩ := (sp_int .i64).step h
  have e14 : r13 = p14 ++ r14 := e14
  obtain ⟨x15, r15, p15, e15, f15, h⟩ := (sp_int .i64).step h
  have e15 : r14 = p15 ++ r15 := e15
  cases h
  exact ⟨(p0 ++ (p1 ++ (p2 ++ (p3 ++ (p4 ++ (p5 ++ (p6 ++ (p7 ++ (p8 ++ (p9 ++ (p10 ++ (p11 ++ (p12 ++ (p13 ++ (p14 ++ p15))))))))))))))), by rw [e0, e1, e2, e3, e4, e5, e6, e7, e8, e9, e10, e11, e12, e13, e14, e15]; simp only [List.append_assoc], (f0.append (f1.append (f2.append (f3.append (f4.append (f5.append (f6.append (f7.append (f8.append (f9.append (f10.append (f11.append (f12.append (f13.append (f14.append f15)))))))))))))))⟩
theorem sp_hardware_machine : Sp (U := U) rhardware_machine ehardware_machine := fun l x r h => by
  unfold rhardware_machine at h
  obtain ⟨x0, r0, p0, e0, f0, h⟩ := sp_HwState.step h
  obtain ⟨x1, r1, p1, e1, f1, h⟩ := sp_HwCode.step h
  have e1 : r0 = p1 ++ r1 := e1
  obtain ⟨x2, r2, p2, e2, f2, h⟩ := (sp_int .i64).step h
  have e2 : r1 = p2 ++ r2 := e2
  cases h
  exact ⟨(p0 ++ (p1 ++ p2)), by rw [e0, e1, e2]; simp only [List.append_assoc], (f0.append (f1.append f2))⟩
theorem sp_interpret_machine : Sp (U := U) rinterpret_machine einterpret_machine := fun l x r h => by
  unfold rinterpret_machine at h
  obtain ⟨x0, r0, p0, e0, f0, h⟩ := sp_MiProgram.step h
  obtain ⟨x1, r1, p1, e1, f1, h⟩ := sp_MiState.step h
  have e1 : r0 = p1 ++ r1 := e1
  obtain ⟨x2, r2, p2, e2, f2, h⟩ := (sp_sl (Ty.int .i64)).step h
  have e2 : r1 = p2 ++ r2 := e2
  obtain ⟨x3, r3, p3, e3, f3, h⟩ := (sp_int .i64).step h
  have e3 : r2 = p3 ++ r3 := e3
  cases h
  exact ⟨(p0 ++ (p1 ++ (p2 ++ p3))), by rw [e0, e1, e2, e3]; simp only [List.append_assoc], (f0.append (f1.append (f2.append f3)))⟩
theorem sp_ref01_Long : Sp (U := U) rref01_Long eref01_Long := fun l x r h => by
  unfold rref01_Long at h
  obtain ⟨x0, r0, p0, e0, f0, h⟩ := sp_bool.step h
  obtain ⟨x1, r1, p1, e1, f1, h⟩ := (sp_sl (Ty.int .i64)).step h
  have e1 : r0 = p1 ++ r1 := e1
  cases h
  exact ⟨(p0 ++ p1), by rw [e0, e1]; simp only [List.append_assoc], (f0.append f1)⟩
theorem sp_ref01_Request : Sp (U := U) rref01_Request eref01_Request := fun l x r h => by
  unfold rref01_Request at h
  obtain ⟨x0, r0, p0, e0, f0, h⟩ := (sp_int .i64).step h
  obtain ⟨x1, r1, p1, e1, f1, h⟩ := sp_DataType.step h
  have e1 : r0 = p1 ++ r1 := e1
  obtain ⟨x2, r2, p2, e2, f2, h⟩ := sp_bool.step h
  have e2 : r1 = p2 ++ r2 := e2
  cases h
  exact ⟨(p0 ++ (p1 ++ p2)), by rw [e0, e1, e2]; simp only [List.append_assoc], (f0.append (f1.append f2))⟩
theorem sp_ref01_Fraction : Sp (U := U) rref01_Fraction eref01_Fraction := fun l x r h => by
  unfold rref01_Fraction at h
  obtain ⟨x0, r0, p0, e0, f0, h⟩ := sp_ref01_Long.step h
  obtain ⟨x1, r1, p1, e1, f1, h⟩ := (sp_sl (Ty.int .i64)).step h
  have e1 : r0 = p1 ++ r1 := e1
  cases h
  exact ⟨(p0 ++ p1), by rw [e0, e1]; simp only [List.append_assoc], (f0.append f1)⟩
theorem sp_A4_u64 : Sp (U := U) rA4_u64 eA4_u64 := fun l x r h => by
  unfold rA4_u64 at h
  obtain ⟨x0, r0, p0, e0, f0, h⟩ := (sp_int .u64).step h
  obtain ⟨x1, r1, p1, e1, f1, h⟩ := (sp_int .u64).step h
  have e1 : r0 = p1 ++ r1 := e1
  obtain ⟨x2, r2, p2, e2, f2, h⟩ := (sp_int .u64).step h
  have e2 : r1 = p2 ++ r2 := e2
  obtain ⟨x3, r3, p3, e3, f3, h⟩ := (sp_int .u64).step h
  have e3 : r2 = p3 ++ r3 := e3
  cases h
  exact ⟨(p0 ++ (p1 ++ (p2 ++ p3))), by rw [e0, e1, e2, e3]; simp only [List.append_assoc], (f0.append (f1.append (f2.append f3)))⟩
theorem sp_numeric_fraction : Sp (U := U) rnumeric_fraction enumeric_fraction := fun l x r h => by
  unfold rnumeric_fraction at h
  obtain ⟨x0, r0, p0, e0, f0, h⟩ := sp_bool.step h
  obtain ⟨x1, r1, p1, e1, f1, h⟩ := sp_A4_u64.step h
  have e1 : r0 = p1 ++ r1 := e1
  obtain ⟨x2, r2, p2, e2, f2, h⟩ := sp_A4_u64.step h
  have e2 : r1 = p2 ++ r2 := e2
  cases h
  exact ⟨(p0 ++ (p1 ++ p2)), by rw [e0, e1, e2]; simp only [List.append_assoc], (f0.append (f1.append f2))⟩
theorem sp : ∀ t : Ty, Sp (U := U) (rd t) (enc t)
  | .int k => sp_int k
  | .bool => sp_bool
  | .str => sp_str
  | .nil => sp_nil
  | .sl t => sp_sl t
  | .st 0 => sp_hardware_form
  | .st 1 => sp_runtime_boundsError
  | .st 2 => sp_runtime_errorAddressString
  | .st 3 => sp_HwModel
  | .st 4 => sp_Storage
  | .st 5 => sp_HwPlace
  | .st 6 => sp_DataType
  | .st 7 => sp_Number
  | .st 8 => sp_HwInstruction
  | .st 9 => sp_HwTrap
  | .st 10 => sp_HwCode
  | .st 11 => sp_HwResult
  | .st 12 => sp_Value
  | .st 13 => sp_MiOperand
  | .st 14 => sp_MiInstruction
  | .st 15 => sp_MiMonitor
  | .st 16 => sp_MiProgram
  | .st 17 => sp_MiResult
  | .st 18 => sp_HwState
  | .st 19 => sp_MiState
  | .st 20 => sp_MiPlace
  | .st 21 => sp_Address
  | .st 22 => sp_Pointer
  | .st 23 => sp_ref15_fields
  | .st 24 => sp_hardware_machine
  | .st 25 => sp_interpret_machine
  | .st 26 => sp_ref01_Long
  | .st 27 => sp_ref01_Request
  | .st 28 => sp_ref01_Fraction
  | .st 29 => sp_A4_u64
  | .st 30 => sp_numeric_fraction
  | .st (_ + 31) => fun l x r h => by cases h
theorem sz_ok : ∀ (t : Ty) (x : den t), (enc t x).length = szT t
  | .int _, _ => rfl
  | .bool, _ => rfl
  | .str, _ => rfl
  | .nil, _ => rfl
  | .sl _, _ => rfl
  | .st 0, _ => rfl
  | .st 1, _ => rfl
  | .st 2, _ => rfl
  | .st 3, _ => rfl
  | .st 4, _ => rfl
  | .st 5, _ => rfl
  | .st 6, _ => rfl
  | .st 7, _ => rfl
  | .st 8, _ => rfl
  | .st 9, _ => rfl
  | .st 10, _ => rfl
  | .st 11, _ => rfl
  | .st 12, _ => rfl
  | .st 13, _ => rfl
  | .st 14, _ => rfl
  | .st 15, _ => rfl
  | .st 16, _ => rfl
  | .st 17, _ => rfl
  | .st 18, _ => rfl
  | .st 19, _ => rfl
  | .st 20, _ => rfl
  | .st 21, _ => rfl
  | .st 22, _ => rfl
  | .st 23, _ => rfl
  | .st 24, _ => rfl
  | .st 25, _ => rfl
  | .st 26, _ => rfl
  | .st 27, _ => rfl
  | .st 28, _ => rfl
  | .st 29, _ => rfl
  | .st 30, _ => rfl
  | .st (_ + 31), _ => rfl
theorem pos_ok : ∀ t : Ty, 0 < szT t
  | .int _ => Nat.one_pos
  | .bool => Nat.one_pos
  | .str => Nat.one_pos
  | .nil => Nat.one_pos
  | .sl _ => Nat.one_pos
  | .st 0 => (by decide : 0 < 2)
  | .st 1 => (by decide : 0 < 4)
  | .st 2 => (by decide : 0 < 2)
  | .st 3 => (by decide : 0 < 3)
  | .st 4 => (by decide : 0 < 2)
  | .st 5 => (by decide : 0 < 3)
  | .st 6 => (by decide : 0 < 3)
  | .st 7 => (by decide : 0 < 2)
  | .st 8 => (by decide : 0 < 27)
  | .st 9 => (by decide : 0 < 4)
  | .st 10 => (by decide : 0 < 4)
  | .st 11 => (by decide : 0 < 7)
  | .st 12 => (by decide : 0 < 2)
  | .st 13 => (by decide : 0 < 10)
  | .st 14 => (by decide : 0 < 2)
  | .st 15 => (by decide : 0 < 4)
  | .st 16 => (by decide : 0 < 3)
  | .st 17 => (by decide : 0 < 4)
  | .st 18 => (by decide : 0 < 11)
  | .st 19 => (by decide : 0 < 8)
  | .st 20 => (by decide : 0 < 2)
  | .st 21 => (by decide : 0 < 2)
  | .st 22 => (by decide : 0 < 4)
  | .st 23 => (by decide : 0 < 16)
  | .st 24 => (by decide : 0 < 16)
  | .st 25 => (by decide : 0 < 13)
  | .st 26 => (by decide : 0 < 2)
  | .st 27 => (by decide : 0 < 5)
  | .st 28 => (by decide : 0 < 3)
  | .st 29 => (by decide : 0 < 4)
  | .st 30 => (by decide : 0 < 9)
  | .st (_ + 31) => Nat.one_pos
theorem fz_ok : ∀ (t : Ty) (x : den t), (enc t x).all (fzc (U := U)) = true
  | .int _, _ => rfl
  | .bool, _ => rfl
  | .str, _ => rfl
  | .nil, _ => rfl
  | .sl _, _ => rfl
  | .st 0, _ => rfl
  | .st 1, _ => rfl
  | .st 2, _ => rfl
  | .st 3, _ => rfl
  | .st 4, _ => rfl
  | .st 5, _ => rfl
  | .st 6, _ => rfl
  | .st 7, _ => rfl
  | .st 8, _ => rfl
  | .st 9, _ => rfl
  | .st 10, _ => rfl
  | .st 11, _ => rfl
  | .st 12, _ => rfl
  | .st 13, _ => rfl
  | .st 14, _ => rfl
  | .st 15, _ => rfl
  | .st 16, _ => rfl
  | .st 17, _ => rfl
  | .st 18, _ => rfl
  | .st 19, _ => rfl
  | .st 20, _ => rfl
  | .st 21, _ => rfl
  | .st 22, _ => rfl
  | .st 23, _ => rfl
  | .st 24, _ => rfl
  | .st 25, _ => rfl
  | .st 26, _ => rfl
  | .st 27, _ => rfl
  | .st 28, _ => rfl
  | .st 29, _ => rfl
  | .st 30, _ => rfl
  | .st (_ + 31), _ => rfl
theorem flat_ok : ∀ t : Ty, flatT t = true → ∀ x : den t, (enc t x).all (scalar (U := U)) = true
  | .int _, _, _ => rfl
  | .bool, _, _ => rfl
  | .str, _, _ => rfl
  | .nil, _, _ => rfl
  | .sl _, h, _ => by cases h
  | .st 0, _, _ => rfl
  | .st 1, _, _ => rfl
  | .st 2, _, _ => rfl
  | .st 3, _, _ => rfl
  | .st 4, h, _ => by cases h
  | .st 5, _, _ => rfl
  | .st 6, _, _ => rfl
  | .st 7, _, _ => rfl
  | .st 8, _, _ => rfl
  | .st 9, _, _ => rfl
  | .st 10, h, _ => by cases h
  | .st 11, h, _ => by cases h
  | .st 12, _, _ => rfl
  | .st 13, _, _ => rfl
  | .st 14, h, _ => by cases h
  | .st 15, _, _ => rfl
  | .st 16, h, _ => by cases h
  | .st 17, h, _ => by cases h
  | .st 18, h, _ => by cases h
  | .st 19, h, _ => by cases h
  | .st 20, _, _ => rfl
  | .st 21, _, _ => rfl
  | .st 22, _, _ => rfl
  | .st 23, _, _ => rfl
  | .st 24, h, _ => by cases h
  | .st 25, h, _ => by cases h
  | .st 26, h, _ => by cases h
  | .st 27, _, _ => rfl
  | .st 28, h, _ => by cases h
  | .st 29, _, _ => rfl
  | .st 30, _, _ => rfl
  | .st (_ + 31), _, _ => rfl
theorem one_ok : ∀ t : Ty, aggT t = false → szT t = 1
  | .int _, _ => rfl
  | .bool, _ => rfl
  | .str, _ => rfl
  | .nil, _ => rfl
  | .sl _, _ => rfl
  | .st _, h => by cases h
theorem elaws : ELaws En where
  sz := sz_ok
  pos := pos_ok
  fz := fun t x c hc => fzc_spec (all_mem (fz_ok t x) hc)
  one := one_ok
  reify := fun t cs x h => by
    have h' : reify t cs = some x := h
    unfold reify at h'
    rw [Option.bind_eq_some_iff] at h'
    obtain ⟨⟨y, r⟩, h1, h2⟩ := h'
    cases r with
    | cons => cases h2
    | nil =>
      cases h2
      obtain ⟨p, e, f⟩ := sp t cs _ _ h1
      rw [List.append_nil] at e
      subst e
      exact ⟨f.length.trans (sz_ok t _), fun j c c' g1 g2 => f.get j c c' g1 g2⟩
  flat := fun t ht x c hc => scalar_spec (all_mem (flat_ok t ht x) hc)
  slAgg := fun _ => rfl
  slEnc := fun _ _ => rfl
  ofTo := fun _ _ => rfl
  u8sz := rfl
  u8 := fun x => ⟨x, rfl⟩
  toInts := fun xs i x n h1 h2 => by cases h2; exact h1
  toIntsLen := fun _ => rfl
  ofInts := fun l i n h => ⟨n, h, rfl⟩
  ofIntsLen := fun _ => rfl
theorem claws {O : List (Nat × Ct U)} {X : List (Nat × Nat)} {J : List (Nat × Amx.Spec U × List Ty)} {pre : List (Nat × List Nat)} {lits ro pk bj : List Nat} : CLaws (mkCx O X J pre lits ro pk bj) :=
  claws_of elaws (l := goTys) rfl (by kernel_rfl)
theorem xf331 : XOK1 Proofs.Tryz.prog (331, 2) := xok_cmp Proofs.Tryz.func331 (by kernel_rfl) (by kernel_rfl) (by kernel_rfl) (by kernel_rfl)
theorem xf347 : XOK1 Proofs.Tryz.prog (347, 0) := xok_add64 Proofs.Tryz.func347 (by kernel_rfl) (by kernel_rfl) (by kernel_rfl) (by kernel_rfl)
theorem xf355 : XOK1 Proofs.Tryz.prog (355, 1) := xok_sub64 Proofs.Tryz.func355 (by kernel_rfl) (by kernel_rfl) (by kernel_rfl) (by kernel_rfl)
end Go.Proofs.YtppbpnknfigboaaGreatDoor.M
