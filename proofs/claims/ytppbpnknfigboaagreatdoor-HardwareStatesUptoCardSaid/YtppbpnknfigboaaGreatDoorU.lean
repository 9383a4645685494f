/- The program's types, and their cells. -/
import Derived.Test.YtppbpnknfigboaaGreatDoorA3
import Derived.Test.YtppbpnknfigboaaGreatDoorShelf
import Derived.KernelRfl
namespace Go.Proofs.YtppbpnknfigboaaGreatDoor.M
open Go Go.Amx
set_option linter.unusedVariables false
set_option maxRecDepth 100000
noncomputable section
structure hardware_form where
 fields : Int
 types : Int
structure runtime_boundsError where
 x : Int
 y : Int
 signed : Bool
 code : Int
structure runtime_errorAddressString where
 msg : ByteArray
 addr : Int
structure HwModel where
 Registers : Int
 Fused : Bool
 Memory : Bool
structure Storage where
 Bytes : ByteArray
 Tags : List Bool
structure HwPlace where
 Based : Bool
 Pointer : Int
 Offset : Int
structure DataType where
 Kind : Int
 Length : Int
 Scale : Int
structure Number where
 N : Int
 Scale : Int
structure HwInstruction where
 Op : Int
 R : Int
 A : Int
 B : Int
 Calculation : Int
 Place : HwPlace
 From : HwPlace
 Type_ : DataType
 Second : DataType
 Half : Bool
 InStorage : Bool
 Number : Number
 Text : ByteArray
 Other : ByteArray
 Mask : Int
 Target : Int
 Pointer : Int
 Source : Int
structure HwTrap where
 From : Int
 To : Int
 Exception : Int
 Handler : Int
structure HwCode where
 Storage : Storage
 Instructions : List HwInstruction
 Traps : List HwTrap
structure HwResult where
 Lines : List ByteArray
 Status : Int
 Exception : Int
 Marks : Int
 Steps : Int
 Storage : Storage
structure Value where
 N : Int
 S : ByteArray
structure MiOperand where
 Name : ByteArray
 Kind : Int
 Type_ : DataType
 Value : Value
 Base : ByteArray
 Offset : Int
 Target : Int
structure MiInstruction where
 Op : Int
 Args : List Int
structure MiMonitor where
 From : Int
 To : Int
 Exception : Int
 Handler : Int
structure MiProgram where
 Operands : List MiOperand
 Instructions : List MiInstruction
 Monitors : List MiMonitor
structure MiResult where
 Lines : List ByteArray
 Status : Int
 Exception : Int
 Steps : Int
structure HwState where
 Registers : List Number
 Condition : Int
 Storage : Storage
 At : Int
 Stack : List Int
 Lines : List ByteArray
 Status : Int
 Exception : Int
 Marks : Int
 Steps : Int
structure MiState where
 Storage : Storage
 At : Int
 Stack : List Int
 Lines : List ByteArray
 Status : Int
 Exception : Int
 Steps : Int
structure MiPlace where
 Part : Int
 Index : Int
structure Address where
 Segment : Int
 Offset : Int
structure Pointer where
 Kind : Int
 Address : Address
 Authority : Int
structure ref15_fields where
 R : Bool
 A : Bool
 B : Bool
 Place : Bool
 From : Bool
 Half : Bool
 Number : Bool
 Calculation : Bool
 Mask : Bool
 Target : Bool
 Text : Bool
 Other : Bool
 Pointer : Bool
 Source : Bool
 Type_ : Int
 Second : Int
structure hardware_machine where
 HwState : HwState
 code : HwCode
 raised : Int
structure interpret_machine where
 MiProgram : MiProgram
 MiState : MiState
 layout : List Int
 raised : Int
structure ref01_Long where
 Below : Bool
 Digits : List Int
structure ref01_Request where
 Op : Int
 Type_ : DataType
 Half : Bool
structure ref01_Fraction where
 Top : ref01_Long
 Bottom : List Int
structure A4_u64 where
 e0 : Int
 e1 : Int
 e2 : Int
 e3 : Int
structure numeric_fraction where
 below : Bool
 amount : A4_u64
 division : A4_u64
inductive Ty where
 | int (k : IntKind)
 | bool
 | str
 | nil
 | sl (t : Ty)
 | st (n : Nat)
@[reducible] def zxn : Nat → Type
 | 0 => hardware_form
 | 1 => runtime_boundsError
 | 2 => runtime_errorAddressString
 | 3 => HwModel
 | 4 => Storage
 | 5 => HwPlace
 | 6 => DataType
 | 7 => Number
 | 8 => HwInstruction
 | 9 => HwTrap
 | 10 => HwCode
 | 11 => HwResult
 | 12 => Value
 | 13 => MiOperand
 | 14 => MiInstruction
 | 15 => MiMonitor
 | 16 => MiProgram
 | 17 => MiResult
 | 18 => HwState
 | 19 => MiState
 | 20 => MiPlace
 | 21 => Address
 | 22 => Pointer
 | 23 => ref15_fields
 | 24 => hardware_machine
 | 25 => interpret_machine
 | 26 => ref01_Long
 | 27 => ref01_Request
 | 28 => ref01_Fraction
 | 29 => A4_u64
 | 30 => numeric_fraction
 | _ + 31 => Unit
@[reducible] def den : Ty → Type
 | .int _ => Int
 | .bool => Bool
 | .str => ByteArray
 | .nil => Unit
 | .sl t => List (den t)
 | .st n => zxn n
def eqTy : (a b : Ty) → Option (PLift (a = b))
 | .int j, .int k => if h : j = k then some ⟨by rw [h]⟩ else none
 | .bool, .bool => some ⟨rfl⟩
 | .str, .str => some ⟨rfl⟩
 | .nil, .nil => some ⟨rfl⟩
 | .sl a, .sl b => match eqTy a b with
  | some ⟨h⟩ => some ⟨by rw [h]⟩
  | none => none
 | .st i, .st j => if h : i = j then some ⟨by rw [h]⟩ else none
 | _, _ => none
@[reducible] def U : Uni := { Ty := Ty, den := den, eqTy := eqTy }
@[reducible] def T6 : Ty := Ty.int .i64
def w6 (n : Int) : Int := IntKind.wrap .i64 n
@[reducible] def Ty.hardware_form : Ty := .st 0
@[reducible] def Ty.runtime_boundsError : Ty := .st 1
@[reducible] def Ty.runtime_errorAddressString : Ty := .st 2
@[reducible] def Ty.HwModel : Ty := .st 3
@[reducible] def Ty.Storage : Ty := .st 4
@[reducible] def Ty.HwPlace : Ty := .st 5
@[reducible] def Ty.DataType : Ty := .st 6
@[reducible] def Ty.Number : Ty := .st 7
@[reducible] def Ty.HwInstruction : Ty := .st 8
@[reducible] def Ty.HwTrap : Ty := .st 9
@[reducible] def Ty.HwCode : Ty := .st 10
@[reducible] def Ty.HwResult : Ty := .st 11
@[reducible] def Ty.Value : Ty := .st 12
@[reducible] def Ty.MiOperand : Ty := .st 13
@[reducible] def Ty.MiInstruction : Ty := .st 14
@[reducible] def Ty.MiMonitor : Ty := .st 15
@[reducible] def Ty.MiProgram : Ty := .st 16
@[reducible] def Ty.MiResult : Ty := .st 17
@[reducible] def Ty.HwState : Ty := .st 18
@[reducible] def Ty.MiState : Ty := .st 19
@[reducible] def Ty.MiPlace : Ty := .st 20
@[reducible] def Ty.Address : Ty := .st 21
@[reducible] def Ty.Pointer : Ty := .st 22
@[reducible] def Ty.ref15_fields : Ty := .st 23
@[reducible] def Ty.hardware_machine : Ty := .st 24
@[reducible] def Ty.interpret_machine : Ty := .st 25
@[reducible] def Ty.ref01_Long : Ty := .st 26
@[reducible] def Ty.ref01_Request : Ty := .st 27
@[reducible] def Ty.ref01_Fraction : Ty := .st 28
@[reducible] def Ty.A4_u64 : Ty := .st 29
@[reducible] def Ty.numeric_fraction : Ty := .st 30
def zak (k : IntKind) : List (AV U) → Option (Int × List (AV U))
 | .sc (.int k' n) :: l => if k = k' then some (n, l) else none
 | _ => none
def zdx : List (AV U) → Option (Bool × List (AV U))
 | .sc (.bool b) :: l => some (b, l)
 | _ => none
def znp : List (AV U) → Option (ByteArray × List (AV U))
 | .sc (.string s) :: l => some (s, l)
 | _ => none
def z0k : List (AV U) → Option (Unit × List (AV U))
 | .sc (.slice none 0 0) :: l => some ((), l)
 | _ => none
def rSl (t : Ty) : List (AV U) → Option (List (den t) × List (AV U))
 | .lst t' xs :: l => (U.eqTy t' t).map fun e => (zs7 e xs, l)
 | .sc (.slice none 0 0) :: l => some ([], l)
 | _ => none
def zkw (l : List (AV U)) : Option (hardware_form × List (AV U)) := (zak .i64 l).bind fun x0 => (zak .i64 x0.2).bind fun x1 => some (⟨x0.1, x1.1⟩, x1.2)
def zhj (l : List (AV U)) : Option (runtime_boundsError × List (AV U)) := (zak .i64 l).bind fun x0 => (zak .i64 x0.2).bind fun x1 => (zdx x1.2).bind fun x2 => (zak .u8 x2.2).bind fun x3 => some (⟨x0.1, x1.1, x2.1, x3.1⟩, x3.2)
def zfl (l : List (AV U)) : Option (runtime_errorAddressString × List (AV U)) := (znp l).bind fun x0 => (zak .u64 x0.2).bind fun x1 => some (⟨x0.1, x1.1⟩, x1.2)
def zr3 (l : List (AV U)) : Option (HwModel × List (AV U)) := (zak .i64 l).bind fun x0 => (zdx x0.2).bind fun x1 => (zdx x1.2).bind fun x2 => some (⟨x0.1, x1.1, x2.1⟩, x2.2)
def zjr (l : List (AV U)) : Option (Storage × List (AV U)) := (znp l).bind fun x0 => (rSl Ty.bool x0.2).bind fun x1 => some (⟨x0.1, x1.1⟩, x1.2)
def zml (l : List (AV U)) : Option (HwPlace × List (AV U)) := (zdx l).bind fun x0 => (zak .i64 x0.2).bind fun x1 => (zak .i64 x1.2).bind fun x2 => some (⟨x0.1, x1.1, x2.1⟩, x2.2)
def zii (l : List (AV U)) : Option (DataType × List (AV U)) := (zak .i64 l).bind fun x0 => (zak .i64 x0.2).bind fun x1 => (zak .i64 x1.2).bind fun x2 => some (⟨x0.1, x1.1, x2.1⟩, x2.2)
def zqt (l : List (AV U)) : Option (Number × List (AV U)) := (zak .i64 l).bind fun x0 => (zak .i64 x0.2).bind fun x1 => some (⟨x0.1, x1.1⟩, x1.2)
def zk0 (l : List (AV U)) : Option (HwInstruction × List (AV U)) := (zak .i64 l).bind fun x0 => (zak .i64 x0.2).bind fun x1 => (zak .i64 x1.2).bind fun x2 => (zak .i64 x2.2).bind fun x3 => (zak .i64 x3.2).bind fun x4 => (zml x4.2).bind fun x5 => (zml x5.2).bind fun x6 => (zii x6.2).bind fun x7 => (zii x7.2).bind fun x8 => (zdx x8.2).bind fun x9 => (zdx x9.2).bind fun x10 => (zqt x10.2).bind fun x11 => (znp x11.2).bind fun x12 => (znp x12.2).bind fun x13 => (zak .i64 x13.2).bind fun x14 => (zak .i64 x14.2).bind fun x15 => (zak .i64 x15.2).bind fun x16 => (zak .i64 x16.2).bind fun x17 => some (⟨x0.1, x1.1, x2.1, x3.1, x4.1, x5.1, x6.1, x7.1, x8.1, x9.1, x10.1, x11.1, x12.1, x13.1, x14.1, x15.1, x16.1, x17.1⟩, x17.2)
def zti (l : List (AV U)) : Option (HwTrap × List (AV U)) := (zak .i64 l).bind fun x0 => (zak .i64 x0.2).bind fun x1 => (zak .i64 x1.2).bind fun x2 => (zak .i64 x2.2).bind fun x3 => some (⟨x0.1, x1.1, x2.1, x3.1⟩, x3.2)
def zqu (l : List (AV U)) : Option (HwCode × List (AV U)) := (zjr l).bind fun x0 => (rSl Ty.HwInstruction x0.2).bind fun x1 => (rSl Ty.HwTrap x1.2).bind fun x2 => some (⟨x0.1, x1.1, x2.1⟩, x2.2)
def zp3 (l : List (AV U)) : Option (HwResult × List (AV U)) := (rSl Ty.str l).bind fun x0 => (zak .i64 x0.2).bind fun x1 => (zak .i64 x1.2).bind fun x2 => (zak .i64 x2.2).bind fun x3 => (zak .i64 x3.2).bind fun x4 => (zjr x4.2).bind fun x5 => some (⟨x0.1, x1.1, x2.1, x3.1, x4.1, x5.1⟩, x5.2)
def zst (l : List (AV U)) : Option (Value × List (AV U)) := (zak .i64 l).bind fun x0 => (znp x0.2).bind fun x1 => some (⟨x0.1, x1.1⟩, x1.2)
def zor (l : List (AV U)) : Option (MiOperand × List (AV U)) := (znp l).bind fun x0 => (zak .i64 x0.2).bind fun x1 => (zii x1.2).bind fun x2 => (zst x2.2).bind fun x3 => (znp x3.2).bind fun x4 => (zak .i64 x4.2).bind fun x5 => (zak .i64 x5.2).bind fun x6 => some (⟨x0.1, x1.1, x2.1, x3.1, x4.1, x5.1, x6.1⟩, x6.2)
def zkz (l : List (AV U)) : Option (MiInstruction × List (AV U)) := (zak .i64 l).bind fun x0 => (rSl (Ty.int .i64) x0.2).bind fun x1 => some (⟨x0.1, x1.1⟩, x1.2)
def zos (l : List (AV U)) : Option (MiMonitor × List (AV U)) := (zak .i64 l).bind fun x0 => (zak .i64 x0.2).bind fun x1 => (zak .i64 x1.2).bind fun x2 => (zak .i64 x2.2).bind fun x3 => some (⟨x0.1, x1.1, x2.1, x3.1⟩, x3.2)
def zl4 (l : List (AV U)) : Option (MiProgram × List (AV U)) := (rSl Ty.MiOperand l).bind fun x0 => (rSl Ty.MiInstruction x0.2).bind fun x1 => (rSl Ty.MiMonitor x1.2).bind fun x2 => some (⟨x0.1, x1.1, x2.1⟩, x2.2)
def zp2 (l : List (AV U)) : Option (MiResult × List (AV U)) := (rSl Ty.str l).bind fun x0 => (zak .i64 x0.2).bind fun x1 => (zak .i64 x1.2).bind fun x2 => (zak .i64 x2.2).bind fun x3 => some (⟨x0.1, x1.1, x2.1, x3.1⟩, x3.2)
def zot (l : List (AV U)) : Option (HwState × List (AV U)) := (rSl Ty.Number l).bind fun x0 => (zak .i64 x0.2).bind fun x1 => (zjr x1.2).bind fun x2 => (zak .i64 x2.2).bind fun x3 => (rSl (Ty.int .i64) x3.2).bind fun x4 => (rSl Ty.str x4.2).bind fun x5 => (zak .i64 x5.2).bind fun x6 => (zak .i64 x6.2).bind fun x7 => (zak .i64 x7.2).bind fun x8 => (zak .i64 x8.2).bind fun x9 => some (⟨x0.1, x1.1, x2.1, x3.1, x4.1, x5.1, x6.1, x7.1, x8.1, x9.1⟩, x9.2)
def zoq (l : List (AV U)) : Option (MiState × List (AV U)) := (zjr l).bind fun x0 => (zak .i64 x0.2).bind fun x1 => (rSl (Ty.int .i64) x1.2).bind fun x2 => (rSl Ty.str x2.2).bind fun x3 => (zak .i64 x3.2).bind fun x4 => (zak .i64 x4.2).bind fun x5 => (zak .i64 x5.2).bind fun x6 => some (⟨x0.1, x1.1, x2.1, x3.1, x4.1, x5.1, x6.1⟩, x6.2)
def zr2 (l : List (AV U)) : Option (MiPlace × List (AV U)) := (zak .i64 l).bind fun x0 => (zak .i64 x0.2).bind fun x1 => some (⟨x0.1, x1.1⟩, x1.2)
def zou (l : List (AV U)) : Option (Address × List (AV U)) := (zak .i64 l).bind fun x0 => (zak .i64 x0.2).bind fun x1 => some (⟨x0.1, x1.1⟩, x1.2)
def zr1 (l : List (AV U)) : Option (Pointer × List (AV U)) := (zak .i64 l).bind fun x0 => (zou x0.2).bind fun x1 => (zak .i64 x1.2).bind fun x2 => some (⟨x0.1, x1.1, x2.1⟩, x2.2)
def zlx (l : List (AV U)) : Option (ref15_fields × List (AV U)) := (zdx l).bind fun x0 => (zdx x0.2).bind fun x1 => (zdx x1.2).bind fun x2 => (zdx x2.2).bind fun x3 => (zdx x3.2).bind fun x4 => (zdx x4.2).bind fun x5 => (zdx x5.2).bind fun x6 => (zdx x6.2).bind fun x7 => (zdx x7.2).bind fun x8 => (zdx x8.2).bind fun x9 => (zdx x9.2).bind fun x10 => (zdx x10.2).bind fun x11 => (zdx x11.2).bind fun x12 => (zdx x12.2).bind fun x13 => (zak .i64 x13.2).bind fun x14 => (zak .i64 x14.2).bind fun x15 => some (⟨x0.1, x1.1, x2.1, x3.1, x4.1, x5.1, x6.1, x7.1, x8.1, x9.1, x10.1, x11.1, x12.1, x13.1, x14.1, x15.1⟩, x15.2)
def zi5 (l : List (AV U)) : Option (hardware_machine × List (AV U)) := (zot l).bind fun x0 => (zqu x0.2).bind fun x1 => (zak .i64 x1.2).bind fun x2 => some (⟨x0.1, x1.1, x2.1⟩, x2.2)
def zie (l : List (AV U)) : Option (interpret_machine × List (AV U)) := (zl4 l).bind fun x0 => (zoq x0.2).bind fun x1 => (rSl (Ty.int .i64) x1.2).bind fun x2 => (zak .i64 x2.2).bind fun x3 => some (⟨x0.1, x1.1, x2.1, x3.1⟩, x3.2)
def zld (l : List (AV U)) : Option (ref01_Long × List (AV U)) := (zdx l).bind fun x0 => (rSl (Ty.int .i64) x0.2).bind fun x1 => some (⟨x0.1, x1.1⟩, x1.2)
def zkt (l : List (AV U)) : Option (ref01_Request × List (AV U)) := (zak .i64 l).bind fun x0 => (zii x0.2).bind fun x1 => (zdx x1.2).bind fun x2 => some (⟨x0.1, x1.1, x2.1⟩, x2.2)
def zka (l : List (AV U)) : Option (ref01_Fraction × List (AV U)) := (zld l).bind fun x0 => (rSl (Ty.int .i64) x0.2).bind fun x1 => some (⟨x0.1, x1.1⟩, x1.2)
def znz (l : List (AV U)) : Option (A4_u64 × List (AV U)) := (zak .u64 l).bind fun x0 => (zak .u64 x0.2).bind fun x1 => (zak .u64 x1.2).bind fun x2 => (zak .u64 x2.2).bind fun x3 => some (⟨x0.1, x1.1, x2.1, x3.1⟩, x3.2)
def zi4 (l : List (AV U)) : Option (numeric_fraction × List (AV U)) := (zdx l).bind fun x0 => (znz x0.2).bind fun x1 => (znz x1.2).bind fun x2 => some (⟨x0.1, x1.1, x2.1⟩, x2.2)
def zn4 (x : hardware_form) : List (AV U) := [.sc (.int .i64 x.fields), .sc (.int .i64 x.types)]
def zkk (x : runtime_boundsError) : List (AV U) := [.sc (.int .i64 x.x), .sc (.int .i64 x.y), .sc (.bool x.signed), .sc (.int .u8 x.code)]
def zhf (x : runtime_errorAddressString) : List (AV U) := [.sc (.string x.msg), .sc (.int .u64 x.addr)]
def zvz (x : HwModel) : List (AV U) := [.sc (.int .i64 x.Registers), .sc (.bool x.Fused), .sc (.bool x.Memory)]
def zvu (x : Storage) : List (AV U) := [.sc (.string x.Bytes), .lst Ty.bool x.Tags]
def zvy (x : HwPlace) : List (AV U) := [.sc (.bool x.Based), .sc (.int .i64 x.Pointer), .sc (.int .i64 x.Offset)]
def zt6 (x : DataType) : List (AV U) := [.sc (.int .i64 x.Kind), .sc (.int .i64 x.Length), .sc (.int .i64 x.Scale)]
def zw9 (x : Number) : List (AV U) := [.sc (.int .i64 x.N), .sc (.int .i64 x.Scale)]
def zgb (x : HwInstruction) : List (AV U) := [.sc (.int .i64 x.Op), .sc (.int .i64 x.R), .sc (.int .i64 x.A), .sc (.int .i64 x.B), .sc (.int .i64 x.Calculation), .sc (.bool x.Place.Based), .sc (.int .i64 x.Place.Pointer), .sc (.int .i64 x.Place.Offset), .sc (.bool x.From.Based), .sc (.int .i64 x.From.Pointer), .sc (.int .i64 x.From.Offset), .sc (.int .i64 x.Type_.Kind), .sc (.int .i64 x.Type_.Length), .sc (.int .i64 x.Type_.Scale), .sc (.int .i64 x.Second.Kind), .sc (.int .i64 x.Second.Length), .sc (.int .i64 x.Second.Scale), .sc (.bool x.Half), .sc (.bool x.InStorage), .sc (.int .i64 x.Number.N), .sc (.int .i64 x.Number.Scale), .sc (.string x.Text), .sc (.string x.Other), .sc (.int .i64 x.Mask), .sc (.int .i64 x.Target), .sc (.int .i64 x.Pointer), .sc (.int .i64 x.Source)]
def zxa (x : HwTrap) : List (AV U) := [.sc (.int .i64 x.From), .sc (.int .i64 x.To), .sc (.int .i64 x.Exception), .sc (.int .i64 x.Handler)]
def zh1 (x : HwCode) : List (AV U) := [.sc (.string x.Storage.Bytes), .lst Ty.bool x.Storage.Tags, .lst Ty.HwInstruction x.Instructions, .lst Ty.HwTrap x.Traps]
def zt5 (x : HwResult) : List (AV U) := [.lst Ty.str x.Lines, .sc (.int .i64 x.Status), .sc (.int .i64 x.Exception), .sc (.int .i64 x.Marks), .sc (.int .i64 x.Steps), .sc (.string x.Storage.Bytes), .lst Ty.bool x.Storage.Tags]
def zzq (x : Value) : List (AV U) := [.sc (.int .i64 x.N), .sc (.string x.S)]
def zs4 (x : MiOperand) : List (AV U) := [.sc (.string x.Name), .sc (.int .i64 x.Kind), .sc (.int .i64 x.Type_.Kind), .sc (.int .i64 x.Type_.Length), .sc (.int .i64 x.Type_.Scale), .sc (.int .i64 x.Value.N), .sc (.string x.Value.S), .sc (.string x.Base), .sc (.int .i64 x.Offset), .sc (.int .i64 x.Target)]
def zn6 (x : MiInstruction) : List (AV U) := [.sc (.int .i64 x.Op), .lst (Ty.int .i64) x.Args]
def zs5 (x : MiMonitor) : List (AV U) := [.sc (.int .i64 x.From), .sc (.int .i64 x.To), .sc (.int .i64 x.Exception), .sc (.int .i64 x.Handler)]
def zs3 (x : MiProgram) : List (AV U) := [.lst Ty.MiOperand x.Operands, .lst Ty.MiInstruction x.Instructions, .lst Ty.MiMonitor x.Monitors]
def zt4 (x : MiResult) : List (AV U) := [.lst Ty.str x.Lines, .sc (.int .i64 x.Status), .sc (.int .i64 x.Exception), .sc (.int .i64 x.Steps)]
def zfy (x : HwState) : List (AV U) := [.lst Ty.Number x.Registers, .sc (.int .i64 x.Condition), .sc (.string x.Storage.Bytes), .lst Ty.bool x.Storage.Tags, .sc (.int .i64 x.At), .lst (Ty.int .i64) x.Stack, .lst Ty.str x.Lines, .sc (.int .i64 x.Status), .sc (.int .i64 x.Exception), .sc (.int .i64 x.Marks), .sc (.int .i64 x.Steps)]
def zvw (x : MiState) : List (AV U) := [.sc (.string x.Storage.Bytes), .lst Ty.bool x.Storage.Tags, .sc (.int .i64 x.At), .lst (Ty.int .i64) x.Stack, .lst Ty.str x.Lines, .sc (.int .i64 x.Status), .sc (.int .i64 x.Exception), .sc (.int .i64 x.Steps)]
def zvx (x : MiPlace) : List (AV U) := [.sc (.int .i64 x.Part), .sc (.int .i64 x.Index)]
def zv0 (x : Address) : List (AV U) := [.sc (.int .i64 x.Segment), .sc (.int .i64 x.Offset)]
def zvv (x : Pointer) : List (AV U) := [.sc (.int .i64 x.Kind), .sc (.int .i64 x.Address.Segment), .sc (.int .i64 x.Address.Offset), .sc (.int .i64 x.Authority)]
def zpe (x : ref15_fields) : List (AV U) := [.sc (.bool x.R), .sc (.bool x.A), .sc (.bool x.B), .sc (.bool x.Place), .sc (.bool x.From), .sc (.bool x.Half), .sc (.bool x.Number), .sc (.bool x.Calculation), .sc (.bool x.Mask), .sc (.bool x.Target), .sc (.bool x.Text), .sc (.bool x.Other), .sc (.bool x.Pointer), .sc (.bool x.Source), .sc (.int .i64 x.Type_), .sc (.int .i64 x.Second)]
def zl1 (x : hardware_machine) : List (AV U) := [.lst Ty.Number x.HwState.Registers, .sc (.int .i64 x.HwState.Condition), .sc (.string x.HwState.Storage.Bytes), .lst Ty.bool x.HwState.Storage.Tags, .sc (.int .i64 x.HwState.At), .lst (Ty.int .i64) x.HwState.Stack, .lst Ty.str x.HwState.Lines, .sc (.int .i64 x.HwState.Status), .sc (.int .i64 x.HwState.Exception), .sc (.int .i64 x.HwState.Marks), .sc (.int .i64 x.HwState.Steps), .sc (.string x.code.Storage.Bytes), .lst Ty.bool x.code.Storage.Tags, .lst Ty.HwInstruction x.code.Instructions, .lst Ty.HwTrap x.code.Traps, .sc (.int .i64 x.raised)]
def zlv (x : interpret_machine) : List (AV U) := [.lst Ty.MiOperand x.MiProgram.Operands, .lst Ty.MiInstruction x.MiProgram.Instructions, .lst Ty.MiMonitor x.MiProgram.Monitors, .sc (.string x.MiState.Storage.Bytes), .lst Ty.bool x.MiState.Storage.Tags, .sc (.int .i64 x.MiState.At), .lst (Ty.int .i64) x.MiState.Stack, .lst Ty.str x.MiState.Lines, .sc (.int .i64 x.MiState.Status), .sc (.int .i64 x.MiState.Exception), .sc (.int .i64 x.MiState.Steps), .lst (Ty.int .i64) x.layout, .sc (.int .i64 x.raised)]
def zrj (x : ref01_Long) : List (AV U) := [.sc (.bool x.Below), .lst (Ty.int .i64) x.Digits]
def zn3 (x : ref01_Request) : List (AV U) := [.sc (.int .i64 x.Op), .sc (.int .i64 x.Type_.Kind), .sc (.int .i64 x.Type_.Length), .sc (.int .i64 x.Type_.Scale), .sc (.bool x.Half)]
def znc (x : ref01_Fraction) : List (AV U) := [.sc (.bool x.Top.Below), .lst (Ty.int .i64) x.Top.Digits, .lst (Ty.int .i64) x.Bottom]
def zxb (x : A4_u64) : List (AV U) := [.sc (.int .u64 x.e0), .sc (.int .u64 x.e1), .sc (.int .u64 x.e2), .sc (.int .u64 x.e3)]
def zl0 (x : numeric_fraction) : List (AV U) := [.sc (.bool x.below), .sc (.int .u64 x.amount.e0), .sc (.int .u64 x.amount.e1), .sc (.int .u64 x.amount.e2), .sc (.int .u64 x.amount.e3), .sc (.int .u64 x.division.e0), .sc (.int .u64 x.division.e1), .sc (.int .u64 x.division.e2), .sc (.int .u64 x.division.e3)]
def z4u : (n : Nat) → zxn n → List (AV U)
 | 0, x => zn4 x
 | 1, x => zkk x
 | 2, x => zhf x
 | 3, x => zvz x
 | 4, x => zvu x
 | 5, x => zvy x
 | 6, x => zt6 x
 | 7, x => zw9 x
 | 8, x => zgb x
 | 9, x => zxa x
 | 10, x => zh1 x
 | 11, x => zt5 x
 | 12, x => zzq x
 | 13, x => zs4 x
 | 14, x => zn6 x
 | 15, x => zs5 x
 | 16, x => zs3 x
 | 17, x => zt4 x
 | 18, x => zfy x
 | 19, x => zvw x
 | 20, x => zvx x
 | 21, x => zv0 x
 | 22, x => zvv x
 | 23, x => zpe x
 | 24, x => zl1 x
 | 25, x => zlv x
 | 26, x => zrj x
 | 27, x => zn3 x
 | 28, x => znc x
 | 29, x => zxb x
 | 30, x => zl0 x
 | _ + 31, _ => [.sc (.bool true)]
def z4w : (n : Nat) → List (AV U) → Option (zxn n × List (AV U))
 | 0, l => zkw l
 | 1, l => zhj l
 | 2, l => zfl l
 | 3, l => zr3 l
 | 4, l => zjr l
 | 5, l => zml l
 | 6, l => zii l
 | 7, l => zqt l
 | 8, l => zk0 l
 | 9, l => zti l
 | 10, l => zqu l
 | 11, l => zp3 l
 | 12, l => zst l
 | 13, l => zor l
 | 14, l => zkz l
 | 15, l => zos l
 | 16, l => zl4 l
 | 17, l => zp2 l
 | 18, l => zot l
 | 19, l => zoq l
 | 20, l => zr2 l
 | 21, l => zou l
 | 22, l => zr1 l
 | 23, l => zlx l
 | 24, l => zi5 l
 | 25, l => zie l
 | 26, l => zld l
 | 27, l => zkt l
 | 28, l => zka l
 | 29, l => znz l
 | 30, l => zi4 l
 | _ + 31, _ => none
def enc : (t : Ty) → den t → List (AV U)
 | .int k, n => [.sc (.int k n)]
 | .bool, b => [.sc (.bool b)]
 | .str, s => [.sc (.string s)]
 | .nil, _ => [.sc (.slice none 0 0)]
 | .sl t, xs => [.lst t xs]
 | .st n, x => z4u n x
def rd : (t : Ty) → List (AV U) → Option (den t × List (AV U))
 | .int k, l => zak k l
 | .bool, l => zdx l
 | .str, l => znp l
 | .nil, l => z0k l
 | .sl t, l => rSl t l
 | .st n, l => z4w n l
def reify (t : Ty) (l : List (AV U)) : Option (den t) := (rd t l).bind fun r => match r.2 with
 | [] => some r.1
 | _ => none
def z4v : Nat → Nat
 | 0 => 2
 | 1 => 4
 | 2 => 2
 | 3 => 3
 | 4 => 2
 | 5 => 3
 | 6 => 3
 | 7 => 2
 | 8 => 27
 | 9 => 4
 | 10 => 4
 | 11 => 7
 | 12 => 2
 | 13 => 10
 | 14 => 2
 | 15 => 4
 | 16 => 3
 | 17 => 4
 | 18 => 11
 | 19 => 8
 | 20 => 2
 | 21 => 2
 | 22 => 4
 | 23 => 16
 | 24 => 16
 | 25 => 13
 | 26 => 2
 | 27 => 5
 | 28 => 3
 | 29 => 4
 | 30 => 9
 | _ + 31 => 1
def z3t : Nat → Bool
 | 0 => true
 | 1 => true
 | 2 => true
 | 3 => true
 | 4 => false
 | 5 => true
 | 6 => true
 | 7 => true
 | 8 => true
 | 9 => true
 | 10 => false
 | 11 => false
 | 12 => true
 | 13 => true
 | 14 => false
 | 15 => true
 | 16 => false
 | 17 => false
 | 18 => false
 | 19 => false
 | 20 => true
 | 21 => true
 | 22 => true
 | 23 => true
 | 24 => false
 | 25 => false
 | 26 => false
 | 27 => true
 | 28 => false
 | 29 => true
 | 30 => true
 | _ + 31 => true
def szT : Ty → Nat
 | .st n => z4v n
 | _ => 1
def z3x : Ty → Bool
 | .st _ => true
 | _ => false
def z1n : Ty → Bool
 | .sl _ => false
 | .st n => z3t n
 | _ => true
def z1j : List (Nat × Ty) := [(2, (Ty.int .i64)), (3, (Ty.int .i64)), (4, Ty.bool), (5, (Ty.int .u8)), (6, (Ty.int .u8)), (8, Ty.runtime_boundsError), (9, Ty.str), (10, Ty.str), (11, Ty.str), (12, (Ty.int .u64)), (14, Ty.runtime_errorAddressString), (21, (Ty.int .i32)), (23, Ty.HwModel), (24, (Ty.sl Ty.bool)), (26, Ty.Storage), (27, (Ty.sl Ty.HwInstruction)), (28, (Ty.sl Ty.HwTrap)), (30, Ty.HwCode), (33, (Ty.int .i64)), (42, (Ty.sl Ty.str)), (44, Ty.HwResult), (54, (Ty.sl Ty.MiOperand)), (55, (Ty.sl Ty.MiInstruction)), (56, (Ty.sl Ty.MiMonitor)), (58, Ty.MiProgram), (61, Ty.MiResult), (68, (Ty.sl Ty.Number)), (69, (Ty.sl (Ty.int .i64))), (71, Ty.HwState), (84, Ty.Number), (89, Ty.HwPlace), (91, Ty.DataType), (93, Ty.HwInstruction), (101, Ty.HwTrap), (117, Ty.Value), (119, Ty.MiOperand), (121, Ty.MiInstruction), (123, Ty.MiState), (128, Ty.MiPlace), (142, Ty.Address), (144, Ty.Pointer), (154, (Ty.sl (Ty.int .i64))), (159, Ty.hardware_form), (164, Ty.ref15_fields), (173, Ty.hardware_machine), (186, Ty.MiMonitor), (203, (Ty.sl (Ty.int .u8))), (224, Ty.interpret_machine), (248, Ty.ref01_Long), (262, Ty.ref01_Request), (263, (Ty.int .u64)), (312, Ty.ref01_Fraction), (321, (Ty.int .u64)), (322, Ty.A4_u64), (323, Ty.A4_u64), (325, Ty.numeric_fraction), (348, (Ty.int .i8)), (374, (Ty.int .u32)), (383, (Ty.sl (Ty.sl (Ty.int .u8)))), (405, (Ty.int .u8)), (406, (Ty.int .u8)), (408, (Ty.int .i32)), (409, (Ty.int .i32))]
def En : Enc U := { sz := szT, agg := z3x, flat := z1n, enc := enc, reify := reify, ofGo := pick z1j, sl := Ty.sl, toSl := fun _ xs => xs, ofSl := fun _ xs => xs, u8 := .int .u8, ofInts := fun l => l, toInts := fun l => l }
def zx6 : List hardware_form := [⟨41, 1⟩, ⟨169, 1⟩, ⟨257, 0⟩, ⟨3, 0⟩, ⟨32807, 1⟩, ⟨6, 0⟩, ⟨6144, 0⟩, ⟨6150, 0⟩, ⟨4096, 0⟩, ⟨120, 2⟩, ⟨552, 2⟩, ⟨120, 2⟩, ⟨552, 2⟩, ⟨1536, 0⟩, ⟨8232, 3⟩, ⟨24576, 0⟩, ⟨8193, 0⟩, ⟨8192, 0⟩, ⟨4096, 0⟩, ⟨0, 0⟩, ⟨1, 0⟩, ⟨1, 0⟩, ⟨1, 0⟩, ⟨40, 2⟩, ⟨512, 0⟩, ⟨0, 0⟩, ⟨0, 0⟩]
def z1l : List Int := [1, 10, 100, 1000, 10000, 100000, 1000000, 10000000, 100000000, 1000000000, 10000000000, 100000000000, 1000000000000, 10000000000000, 100000000000000, 1000000000000000, 10000000000000000, 100000000000000000, 1000000000000000000, 10000000000000000000]
def z4s : List Int := [0, 1, 28, 2, 29, 14, 24, 3, 30, 22, 20, 15, 25, 17, 4, 8, 31, 27, 13, 23, 21, 19, 16, 7, 26, 12, 18, 6, 11, 5, 10, 9]
def z4r : List Int := [0, 1, 56, 2, 57, 49, 28, 3, 61, 58, 42, 50, 38, 29, 17, 4, 62, 47, 59, 36, 45, 43, 51, 22, 53, 39, 33, 30, 24, 18, 12, 5, 63, 55, 48, 27, 60, 41, 37, 16, 46, 35, 44, 21, 52, 32, 23, 11, 54, 26, 40, 15, 34, 20, 31, 10, 25, 14, 19, 9, 13, 8, 7, 6]
def globs : List (Nat × AV U) := [(0, .rarr Ty.hardware_form zx6), (3, .rarr (Ty.int .u64) z1l), (4, .rarr (Ty.int .u8) z4s), (5, .rarr (Ty.int .u8) z4r)]
def zns (O : List (Nat × Ct U)) (X : List (Nat × Nat)) (J : List (Nat × Amx.Spec U × List Ty)) (pre : List (Nat × List Nat)) (lits ro pk bj : List Nat) : Ctx U :=
 { P := Proofs.Tryz.prog, En := En, G := pick globs, O := pick O, X := pick X, joins := pick J, pre := fun r => (pick pre r).getD [], lits := lits, ro := ro, pk := pk, bj := bj }
theorem zo (k : IntKind) : Sp (U := U) (zak k) (fun n : Int => [.sc (.int k n)]) := fun l x r h => by
 unfold zak at h
 split at h
 · split at h
   · rename_i e; cases h; subst e; exact ⟨[_], rfl, F2.refl_ref _⟩
   · cases h
 · cases h
theorem zcf : Sp (U := U) zdx (fun b : Bool => [.sc (.bool b)]) := fun l x r h => by
 unfold zdx at h
 split at h
 · cases h; exact ⟨[_], rfl, F2.refl_ref _⟩
 · cases h
theorem zlm : Sp (U := U) znp (fun s : ByteArray => [.sc (.string s)]) := fun l x r h => by
 unfold znp at h
 split at h
 · cases h; exact ⟨[_], rfl, F2.refl_ref _⟩
 · cases h
theorem z20 : Sp (U := U) z0k (fun _ : Unit => [.sc (.slice none 0 0)]) := fun l x r h => by
 unfold z0k at h
 split at h
 · cases h; exact ⟨[_], rfl, F2.refl_ref _⟩
 · cases h
theorem zgm (t : Ty) : Sp (U := U) (rSl t) (fun xs : List (den t) => [.lst t xs]) := fun l x r h => by
 unfold rSl at h
 split at h
 · rw [Option.map_eq_some_iff] at h; obtain ⟨⟨e⟩, _, h2⟩ := h; cases e; cases h2; exact ⟨[_], rfl, F2.refl_ref _⟩
 · cases h; exact ⟨[_], rfl, .cons (.inr ⟨rfl, _, rfl⟩) .nil⟩
 · cases h
theorem zrs : Sp (U := U) zkw zn4 := fun l x r h => by
 unfold zkw at h
 obtain ⟨x0, r0, p0, e0, f0, h⟩ := (zo .i64).step h
 obtain ⟨x1, r1, p1, (e1 : r0 = p1 ++ r1), f1, h⟩ := (zo .i64).step h
 cases h
 exact ⟨(p0 ++ p1), by rw [e0, e1]; simp only [List.append_assoc], (f0.append f1)⟩
theorem znl : Sp (U := U) zhj zkk := fun l x r h => by
 unfold zhj at h
 obtain ⟨x0, r0, p0, e0, f0, h⟩ := (zo .i64).step h
 obtain ⟨x1, r1, p1, (e1 : r0 = p1 ++ r1), f1, h⟩ := (zo .i64).step h
 obtain ⟨x2, r2, p2, (e2 : r1 = p2 ++ r2), f2, h⟩ := zcf.step h
 obtain ⟨x3, r3, p3, (e3 : r2 = p3 ++ r3), f3, h⟩ := (zo .u8).step h
 cases h
 exact ⟨(p0 ++ (p1 ++ (p2 ++ p3))), by rw [e0, e1, e2, e3]; simp only [List.append_assoc], (f0.append (f1.append (f2.append f3)))⟩
theorem zkp : Sp (U := U) zfl zhf := fun l x r h => by
 unfold zfl at h
 obtain ⟨x0, r0, p0, e0, f0, h⟩ := zlm.step h
 obtain ⟨x1, r1, p1, (e1 : r0 = p1 ++ r1), f1, h⟩ := (zo .u64).step h
 cases h
 exact ⟨(p0 ++ p1), by rw [e0, e1]; simp only [List.append_assoc], (f0.append f1)⟩
theorem zxq : Sp (U := U) zr3 zvz := fun l x r h => by
 unfold zr3 at h
 obtain ⟨x0, r0, p0, e0, f0, h⟩ := (zo .i64).step h
 obtain ⟨x1, r1, p1, (e1 : r0 = p1 ++ r1), f1, h⟩ := zcf.step h
 obtain ⟨x2, r2, p2, (e2 : r1 = p2 ++ r2), f2, h⟩ := zcf.step h
 cases h
 exact ⟨(p0 ++ (p1 ++ p2)), by rw [e0, e1, e2]; simp only [List.append_assoc], (f0.append (f1.append f2))⟩
theorem zj9 : Sp (U := U) zjr zvu := fun l x r h => by
 unfold zjr at h
 obtain ⟨x0, r0, p0, e0, f0, h⟩ := zlm.step h
 obtain ⟨x1, r1, p1, (e1 : r0 = p1 ++ r1), f1, h⟩ := (zgm Ty.bool).step h
 cases h
 exact ⟨(p0 ++ p1), by rw [e0, e1]; simp only [List.append_assoc], (f0.append f1)⟩
theorem zoj : Sp (U := U) zml zvy := fun l x r h => by
 unfold zml at h
 obtain ⟨x0, r0, p0, e0, f0, h⟩ := zcf.step h
 obtain ⟨x1, r1, p1, (e1 : r0 = p1 ++ r1), f1, h⟩ := (zo .i64).step h
 obtain ⟨x2, r2, p2, (e2 : r1 = p2 ++ r2), f2, h⟩ := (zo .i64).step h
 cases h
 exact ⟨(p0 ++ (p1 ++ p2)), by rw [e0, e1, e2]; simp only [List.append_assoc], (f0.append (f1.append f2))⟩
theorem zi6 : Sp (U := U) zii zt6 := fun l x r h => by
 unfold zii at h
 obtain ⟨x0, r0, p0, e0, f0, h⟩ := (zo .i64).step h
 obtain ⟨x1, r1, p1, (e1 : r0 = p1 ++ r1), f1, h⟩ := (zo .i64).step h
 obtain ⟨x2, r2, p2, (e2 : r1 = p2 ++ r2), f2, h⟩ := (zo .i64).step h
 cases h
 exact ⟨(p0 ++ (p1 ++ p2)), by rw [e0, e1, e2]; simp only [List.append_assoc], (f0.append (f1.append f2))⟩
theorem ztu : Sp (U := U) zqt zw9 := fun l x r h => by
 unfold zqt at h
 obtain ⟨x0, r0, p0, e0, f0, h⟩ := (zo .i64).step h
 obtain ⟨x1, r1, p1, (e1 : r0 = p1 ++ r1), f1, h⟩ := (zo .i64).step h
 cases h
 exact ⟨(p0 ++ p1), by rw [e0, e1]; simp only [List.append_assoc], (f0.append f1)⟩
theorem zru : Sp (U := U) zk0 zgb := fun l x r h => by
 unfold zk0 at h
 obtain ⟨x0, r0, p0, e0, f0, h⟩ := (zo .i64).step h
 obtain ⟨x1, r1, p1, (e1 : r0 = p1 ++ r1), f1, h⟩ := (zo .i64).step h
 obtain ⟨x2, r2, p2, (e2 : r1 = p2 ++ r2), f2, h⟩ := (zo .i64).step h
 obtain ⟨x3, r3, p3, (e3 : r2 = p3 ++ r3), f3, h⟩ := (zo .i64).step h
 obtain ⟨x4, r4, p4, (e4 : r3 = p4 ++ r4), f4, h⟩ := (zo .i64).step h
 obtain ⟨x5, r5, p5, (e5 : r4 = p5 ++ r5), f5, h⟩ := zoj.step h
 obtain ⟨x6, r6, p6, (e6 : r5 = p6 ++ r6), f6, h⟩ := zoj.step h
 obtain ⟨x7, r7, p7, (e7 : r6 = p7 ++ r7), f7, h⟩ := zi6.step h
 obtain ⟨x8, r8, p8, (e8 : r7 = p8 ++ r8), f8, h⟩ := zi6.step h
 obtain ⟨x9, r9, p9, (e9 : r8 = p9 ++ r9), f9, h⟩ := zcf.step h
 obtain ⟨x10, r10, p10, (e10 : r9 = p10 ++ r10), f10, h⟩ := zcf.step h
 obtain ⟨x11, r11, p11, (e11 : r10 = p11 ++ r11), f11, h⟩ := ztu.step h
 obtain ⟨x12, r12, p12, (e12 : r11 = p12 ++ r12), f12, h⟩ := zlm.step h
 obtain ⟨x13, r13, p13, (e13 : r12 = p13 ++ r13), f13, h⟩ := zlm.step h
 obtain ⟨x14, r14, p14, (e14 : r13 = p14 ++ r14), f14, h⟩ := (zo .i64).step h
 obtain ⟨x15, r15, p15, (e15 : r14 = p15 ++ r15), f15, h⟩ := (zo .i64).step h
 obtain ⟨x16, r16, p16, (e16 : r15 = p16 ++ r16), f16, h⟩ := (zo .i64).step h
 obtain ⟨x17, r17, p17, (e17 : r16 = p17 ++ r17), f17, h⟩ := (zo .i64).step h
 cases h
 exact ⟨(p0 ++ (p1 ++ (p2 ++ (p3 ++ (p4 ++ (p5 ++ (p6 ++ (p7 ++ (p8 ++ (p9 ++ (p10 ++ (p11 ++ (p12 ++ (p13 ++ (p14 ++ (p15 ++ (p16 ++ p17))))))))))))))))), by rw [e0, e1, e2, e3, e4, e5, e6, e7, e8, e9, e10, e11, e12, e13, e14, e15, e16, e17]; simp only [List.append_assoc], (f0.append (f1.append (f2.append (f3.append (f4.append (f5.append (f6.append (f7.append (f8.append (f9.append (f10.append (f11.append (f12.append (f13.append (f14.append (f15.append (f16.append f17)))))))))))))))))⟩
theorem zyw : Sp (U := U) zti zxa := fun l x r h => by
 unfold zti at h
 obtain ⟨x0, r0, p0, e0, f0, h⟩ := (zo .i64).step h
 obtain ⟨x1, r1, p1, (e1 : r0 = p1 ++ r1), f1, h⟩ := (zo .i64).step h
 obtain ⟨x2, r2, p2, (e2 : r1 = p2 ++ r2), f2, h⟩ := (zo .i64).step h
 obtain ⟨x3, r3, p3, (e3 : r2 = p3 ++ r3), f3, h⟩ := (zo .i64).step h
 cases h
 exact ⟨(p0 ++ (p1 ++ (p2 ++ p3))), by rw [e0, e1, e2, e3]; simp only [List.append_assoc], (f0.append (f1.append (f2.append f3)))⟩
theorem ztv : Sp (U := U) zqu zh1 := fun l x r h => by
 unfold zqu at h
 obtain ⟨x0, r0, p0, e0, f0, h⟩ := zj9.step h
 obtain ⟨x1, r1, p1, (e1 : r0 = p1 ++ r1), f1, h⟩ := (zgm Ty.HwInstruction).step h
 obtain ⟨x2, r2, p2, (e2 : r1 = p2 ++ r2), f2, h⟩ := (zgm Ty.HwTrap).step h
 cases h
 exact ⟨(p0 ++ (p1 ++ p2)), by rw [e0, e1, e2]; simp only [List.append_assoc], (f0.append (f1.append f2))⟩
theorem zwe : Sp (U := U) zp3 zt5 := fun l x r h => by
 unfold zp3 at h
 obtain ⟨x0, r0, p0, e0, f0, h⟩ := (zgm Ty.str).step h
 obtain ⟨x1, r1, p1, (e1 : r0 = p1 ++ r1), f1, h⟩ := (zo .i64).step h
 obtain ⟨x2, r2, p2, (e2 : r1 = p2 ++ r2), f2, h⟩ := (zo .i64).step h
 obtain ⟨x3, r3, p3, (e3 : r2 = p3 ++ r3), f3, h⟩ := (zo .i64).step h
 obtain ⟨x4, r4, p4, (e4 : r3 = p4 ++ r4), f4, h⟩ := (zo .i64).step h
 obtain ⟨x5, r5, p5, (e5 : r4 = p5 ++ r5), f5, h⟩ := zj9.step h
 cases h
 exact ⟨(p0 ++ (p1 ++ (p2 ++ (p3 ++ (p4 ++ p5))))), by rw [e0, e1, e2, e3, e4, e5]; simp only [List.append_assoc], (f0.append (f1.append (f2.append (f3.append (f4.append f5)))))⟩
theorem zuo : Sp (U := U) zst zzq := fun l x r h => by
 unfold zst at h
 obtain ⟨x0, r0, p0, e0, f0, h⟩ := (zo .i64).step h
 obtain ⟨x1, r1, p1, (e1 : r0 = p1 ++ r1), f1, h⟩ := zlm.step h
 cases h
 exact ⟨(p0 ++ p1), by rw [e0, e1]; simp only [List.append_assoc], (f0.append f1)⟩
theorem zup : Sp (U := U) zor zs4 := fun l x r h => by
 unfold zor at h
 obtain ⟨x0, r0, p0, e0, f0, h⟩ := zlm.step h
 obtain ⟨x1, r1, p1, (e1 : r0 = p1 ++ r1), f1, h⟩ := (zo .i64).step h
 obtain ⟨x2, r2, p2, (e2 : r1 = p2 ++ r2), f2, h⟩ := zi6.step h
 obtain ⟨x3, r3, p3, (e3 : r2 = p3 ++ r3), f3, h⟩ := zuo.step h
 obtain ⟨x4, r4, p4, (e4 : r3 = p4 ++ r4), f4, h⟩ := zlm.step h
 obtain ⟨x5, r5, p5, (e5 : r4 = p5 ++ r5), f5, h⟩ := (zo .i64).step h
 obtain ⟨x6, r6, p6, (e6 : r5 = p6 ++ r6), f6, h⟩ := (zo .i64).step h
 cases h
 exact ⟨(p0 ++ (p1 ++ (p2 ++ (p3 ++ (p4 ++ (p5 ++ p6)))))), by rw [e0, e1, e2, e3, e4, e5, e6]; simp only [List.append_assoc], (f0.append (f1.append (f2.append (f3.append (f4.append (f5.append f6))))))⟩
theorem zrt : Sp (U := U) zkz zn6 := fun l x r h => by
 unfold zkz at h
 obtain ⟨x0, r0, p0, e0, f0, h⟩ := (zo .i64).step h
 obtain ⟨x1, r1, p1, (e1 : r0 = p1 ++ r1), f1, h⟩ := (zgm (Ty.int .i64)).step h
 cases h
 exact ⟨(p0 ++ p1), by rw [e0, e1]; simp only [List.append_assoc], (f0.append f1)⟩
theorem zuq : Sp (U := U) zos zs5 := fun l x r h => by
 unfold zos at h
 obtain ⟨x0, r0, p0, e0, f0, h⟩ := (zo .i64).step h
 obtain ⟨x1, r1, p1, (e1 : r0 = p1 ++ r1), f1, h⟩ := (zo .i64).step h
 obtain ⟨x2, r2, p2, (e2 : r1 = p2 ++ r2), f2, h⟩ := (zo .i64).step h
 obtain ⟨x3, r3, p3, (e3 : r2 = p3 ++ r3), f3, h⟩ := (zo .i64).step h
 cases h
 exact ⟨(p0 ++ (p1 ++ (p2 ++ p3))), by rw [e0, e1, e2, e3]; simp only [List.append_assoc], (f0.append (f1.append (f2.append f3)))⟩
theorem zpo : Sp (U := U) zl4 zs3 := fun l x r h => by
 unfold zl4 at h
 obtain ⟨x0, r0, p0, e0, f0, h⟩ := (zgm Ty.MiOperand).step h
 obtain ⟨x1, r1, p1, (e1 : r0 = p1 ++ r1), f1, h⟩ := (zgm Ty.MiInstruction).step h
 obtain ⟨x2, r2, p2, (e2 : r1 = p2 ++ r2), f2, h⟩ := (zgm Ty.MiMonitor).step h
 cases h
 exact ⟨(p0 ++ (p1 ++ p2)), by rw [e0, e1, e2]; simp only [List.append_assoc], (f0.append (f1.append f2))⟩
theorem zwd : Sp (U := U) zp2 zt4 := fun l x r h => by
 unfold zp2 at h
 obtain ⟨x0, r0, p0, e0, f0, h⟩ := (zgm Ty.str).step h
 obtain ⟨x1, r1, p1, (e1 : r0 = p1 ++ r1), f1, h⟩ := (zo .i64).step h
 obtain ⟨x2, r2, p2, (e2 : r1 = p2 ++ r2), f2, h⟩ := (zo .i64).step h
 obtain ⟨x3, r3, p3, (e3 : r2 = p3 ++ r3), f3, h⟩ := (zo .i64).step h
 cases h
 exact ⟨(p0 ++ (p1 ++ (p2 ++ p3))), by rw [e0, e1, e2, e3]; simp only [List.append_assoc], (f0.append (f1.append (f2.append f3)))⟩
theorem zsg : Sp (U := U) zot zfy := fun l x r h => by
 unfold zot at h
 obtain ⟨x0, r0, p0, e0, f0, h⟩ := (zgm Ty.Number).step h
 obtain ⟨x1, r1, p1, (e1 : r0 = p1 ++ r1), f1, h⟩ := (zo .i64).step h
 obtain ⟨x2, r2, p2, (e2 : r1 = p2 ++ r2), f2, h⟩ := zj9.step h
 obtain ⟨x3, r3, p3, (e3 : r2 = p3 ++ r3), f3, h⟩ := (zo .i64).step h
 obtain ⟨x4, r4, p4, (e4 : r3 = p4 ++ r4), f4, h⟩ := (zgm (Ty.int .i64)).step h
 obtain ⟨x5, r5, p5, (e5 : r4 = p5 ++ r5), f5, h⟩ := (zgm Ty.str).step h
 obtain ⟨x6, r6, p6, (e6 : r5 = p6 ++ r6), f6, h⟩ := (zo .i64).step h
 obtain ⟨x7, r7, p7, (e7 : r6 = p7 ++ r7), f7, h⟩ := (zo .i64).step h
 obtain ⟨x8, r8, p8, (e8 : r7 = p8 ++ r8), f8, h⟩ := (zo .i64).step h
 obtain ⟨x9, r9, p9, (e9 : r8 = p9 ++ r9), f9, h⟩ := (zo .i64).step h
 cases h
 exact ⟨(p0 ++ (p1 ++ (p2 ++ (p3 ++ (p4 ++ (p5 ++ (p6 ++ (p7 ++ (p8 ++ p9))))))))), by rw [e0, e1, e2, e3, e4, e5, e6, e7, e8, e9]; simp only [List.append_assoc], (f0.append (f1.append (f2.append (f3.append (f4.append (f5.append (f6.append (f7.append (f8.append f9)))))))))⟩
theorem zsf : Sp (U := U) zoq zvw := fun l x r h => by
 unfold zoq at h
 obtain ⟨x0, r0, p0, e0, f0, h⟩ := zj9.step h
 obtain ⟨x1, r1, p1, (e1 : r0 = p1 ++ r1), f1, h⟩ := (zo .i64).step h
 obtain ⟨x2, r2, p2, (e2 : r1 = p2 ++ r2), f2, h⟩ := (zgm (Ty.int .i64)).step h
 obtain ⟨x3, r3, p3, (e3 : r2 = p3 ++ r3), f3, h⟩ := (zgm Ty.str).step h
 obtain ⟨x4, r4, p4, (e4 : r3 = p4 ++ r4), f4, h⟩ := (zo .i64).step h
 obtain ⟨x5, r5, p5, (e5 : r4 = p5 ++ r5), f5, h⟩ := (zo .i64).step h
 obtain ⟨x6, r6, p6, (e6 : r5 = p6 ++ r6), f6, h⟩ := (zo .i64).step h
 cases h
 exact ⟨(p0 ++ (p1 ++ (p2 ++ (p3 ++ (p4 ++ (p5 ++ p6)))))), by rw [e0, e1, e2, e3, e4, e5, e6]; simp only [List.append_assoc], (f0.append (f1.append (f2.append (f3.append (f4.append (f5.append f6))))))⟩
theorem zxp : Sp (U := U) zr2 zvx := fun l x r h => by
 unfold zr2 at h
 obtain ⟨x0, r0, p0, e0, f0, h⟩ := (zo .i64).step h
 obtain ⟨x1, r1, p1, (e1 : r0 = p1 ++ r1), f1, h⟩ := (zo .i64).step h
 cases h
 exact ⟨(p0 ++ p1), by rw [e0, e1]; simp only [List.append_assoc], (f0.append f1)⟩
theorem zsh : Sp (U := U) zou zv0 := fun l x r h => by
 unfold zou at h
 obtain ⟨x0, r0, p0, e0, f0, h⟩ := (zo .i64).step h
 obtain ⟨x1, r1, p1, (e1 : r0 = p1 ++ r1), f1, h⟩ := (zo .i64).step h
 cases h
 exact ⟨(p0 ++ p1), by rw [e0, e1]; simp only [List.append_assoc], (f0.append f1)⟩
theorem zxo : Sp (U := U) zr1 zvv := fun l x r h => by
 unfold zr1 at h
 obtain ⟨x0, r0, p0, e0, f0, h⟩ := (zo .i64).step h
 obtain ⟨x1, r1, p1, (e1 : r0 = p1 ++ r1), f1, h⟩ := zsh.step h
 obtain ⟨x2, r2, p2, (e2 : r1 = p2 ++ r2), f2, h⟩ := (zo .i64).step h
 cases h
 exact ⟨(p0 ++ (p1 ++ p2)), by rw [e0, e1, e2]; simp only [List.append_assoc], (f0.append (f1.append f2))⟩
theorem zse : Sp (U := U) zlx zpe := fun l x r h => by
 unfold zlx at h
 obtain ⟨x0, r0, p0, e0, f0, h⟩ := zcf.step h
 obtain ⟨x1, r1, p1, (e1 : r0 = p1 ++ r1), f1, h⟩ := zcf.step h
 obtain ⟨x2, r2, p2, (e2 : r1 = p2 ++ r2), f2, h⟩ := zcf.step h
 obtain ⟨x3, r3, p3, (e3 : r2 = p3 ++ r3), f3, h⟩ := zcf.step h
 obtain ⟨x4, r4, p4, (e4 : r3 = p4 ++ r4), f4, h⟩ := zcf.step h
 obtain ⟨x5, r5, p5, (e5 : r4 = p5 ++ r5), f5, h⟩ := zcf.step h
 obtain ⟨x6, r6, p6, (e6 : r5 = p6 ++ r6), f6, h⟩ := zcf.step h
 obtain ⟨x7, r7, p7, (e7 : r6 = p7 ++ r7), f7, h⟩ := zcf.step h
 obtain ⟨x8, r8, p8, (e8 : r7 = p8 ++ r8), f8, h⟩ := zcf.step h
 obtain ⟨x9, r9, p9, (e9 : r8 = p9 ++ r9), f9, h⟩ := zcf.step h
 obtain ⟨x10, r10, p10, (e10 : r9 = p10 ++ r10), f10, h⟩ := zcf.step h
 obtain ⟨x11, r11, p11, (e11 : r10 = p11 ++ r11), f11, h⟩ := zcf.step h
 obtain ⟨x12, r12, p12, (e12 : r11 = p12 ++ r12), f12, h⟩ := zcf.step h
 obtain ⟨x13, r13, p13, (e13 : r12 = p13 ++ r13), f13, h⟩ := zcf.step h
 obtain ⟨x14, r14, p14, (e14 : r13 = p14 ++ r14), f14, h⟩ := (zo .i64).step h
 obtain ⟨x15, r15, p15, (e15 : r14 = p15 ++ r15), f15, h⟩ := (zo .i64).step h
 cases h
 exact ⟨(p0 ++ (p1 ++ (p2 ++ (p3 ++ (p4 ++ (p5 ++ (p6 ++ (p7 ++ (p8 ++ (p9 ++ (p10 ++ (p11 ++ (p12 ++ (p13 ++ (p14 ++ p15))))))))))))))), by rw [e0, e1, e2, e3, e4, e5, e6, e7, e8, e9, e10, e11, e12, e13, e14, e15]; simp only [List.append_assoc], (f0.append (f1.append (f2.append (f3.append (f4.append (f5.append (f6.append (f7.append (f8.append (f9.append (f10.append (f11.append (f12.append (f13.append (f14.append f15)))))))))))))))⟩
theorem zpi : Sp (U := U) zi5 zl1 := fun l x r h => by
 unfold zi5 at h
 obtain ⟨x0, r0, p0, e0, f0, h⟩ := zsg.step h
 obtain ⟨x1, r1, p1, (e1 : r0 = p1 ++ r1), f1, h⟩ := ztv.step h
 obtain ⟨x2, r2, p2, (e2 : r1 = p2 ++ r2), f2, h⟩ := (zo .i64).step h
 cases h
 exact ⟨(p0 ++ (p1 ++ p2)), by rw [e0, e1, e2]; simp only [List.append_assoc], (f0.append (f1.append f2))⟩
theorem zoi : Sp (U := U) zie zlv := fun l x r h => by
 unfold zie at h
 obtain ⟨x0, r0, p0, e0, f0, h⟩ := zpo.step h
 obtain ⟨x1, r1, p1, (e1 : r0 = p1 ++ r1), f1, h⟩ := zsf.step h
 obtain ⟨x2, r2, p2, (e2 : r1 = p2 ++ r2), f2, h⟩ := (zgm (Ty.int .i64)).step h
 obtain ⟨x3, r3, p3, (e3 : r2 = p3 ++ r3), f3, h⟩ := (zo .i64).step h
 cases h
 exact ⟨(p0 ++ (p1 ++ (p2 ++ p3))), by rw [e0, e1, e2, e3]; simp only [List.append_assoc], (f0.append (f1.append (f2.append f3)))⟩
theorem zpb : Sp (U := U) zld zrj := fun l x r h => by
 unfold zld at h
 obtain ⟨x0, r0, p0, e0, f0, h⟩ := zcf.step h
 obtain ⟨x1, r1, p1, (e1 : r0 = p1 ++ r1), f1, h⟩ := (zgm (Ty.int .i64)).step h
 cases h
 exact ⟨(p0 ++ p1), by rw [e0, e1]; simp only [List.append_assoc], (f0.append f1)⟩
theorem zrr : Sp (U := U) zkt zn3 := fun l x r h => by
 unfold zkt at h
 obtain ⟨x0, r0, p0, e0, f0, h⟩ := (zo .i64).step h
 obtain ⟨x1, r1, p1, (e1 : r0 = p1 ++ r1), f1, h⟩ := zi6.step h
 obtain ⟨x2, r2, p2, (e2 : r1 = p2 ++ r2), f2, h⟩ := zcf.step h
 cases h
 exact ⟨(p0 ++ (p1 ++ p2)), by rw [e0, e1, e2]; simp only [List.append_assoc], (f0.append (f1.append f2))⟩
theorem zq2 : Sp (U := U) zka znc := fun l x r h => by
 unfold zka at h
 obtain ⟨x0, r0, p0, e0, f0, h⟩ := zpb.step h
 obtain ⟨x1, r1, p1, (e1 : r0 = p1 ++ r1), f1, h⟩ := (zgm (Ty.int .i64)).step h
 cases h
 exact ⟨(p0 ++ p1), by rw [e0, e1]; simp only [List.append_assoc], (f0.append f1)⟩
theorem zpp : Sp (U := U) znz zxb := fun l x r h => by
 unfold znz at h
 obtain ⟨x0, r0, p0, e0, f0, h⟩ := (zo .u64).step h
 obtain ⟨x1, r1, p1, (e1 : r0 = p1 ++ r1), f1, h⟩ := (zo .u64).step h
 obtain ⟨x2, r2, p2, (e2 : r1 = p2 ++ r2), f2, h⟩ := (zo .u64).step h
 obtain ⟨x3, r3, p3, (e3 : r2 = p3 ++ r3), f3, h⟩ := (zo .u64).step h
 cases h
 exact ⟨(p0 ++ (p1 ++ (p2 ++ p3))), by rw [e0, e1, e2, e3]; simp only [List.append_assoc], (f0.append (f1.append (f2.append f3)))⟩
theorem zph : Sp (U := U) zi4 zl0 := fun l x r h => by
 unfold zi4 at h
 obtain ⟨x0, r0, p0, e0, f0, h⟩ := zcf.step h
 obtain ⟨x1, r1, p1, (e1 : r0 = p1 ++ r1), f1, h⟩ := zpp.step h
 obtain ⟨x2, r2, p2, (e2 : r1 = p2 ++ r2), f2, h⟩ := zpp.step h
 cases h
 exact ⟨(p0 ++ (p1 ++ p2)), by rw [e0, e1, e2]; simp only [List.append_assoc], (f0.append (f1.append f2))⟩
theorem sp : ∀ t : Ty, Sp (U := U) (rd t) (enc t)
 | .int k => zo k
 | .bool => zcf
 | .str => zlm
 | .nil => z20
 | .sl t => zgm t
 | .st 0 => zrs
 | .st 1 => znl
 | .st 2 => zkp
 | .st 3 => zxq
 | .st 4 => zj9
 | .st 5 => zoj
 | .st 6 => zi6
 | .st 7 => ztu
 | .st 8 => zru
 | .st 9 => zyw
 | .st 10 => ztv
 | .st 11 => zwe
 | .st 12 => zuo
 | .st 13 => zup
 | .st 14 => zrt
 | .st 15 => zuq
 | .st 16 => zpo
 | .st 17 => zwd
 | .st 18 => zsg
 | .st 19 => zsf
 | .st 20 => zxp
 | .st 21 => zsh
 | .st 22 => zxo
 | .st 23 => zse
 | .st 24 => zpi
 | .st 25 => zoi
 | .st 26 => zpb
 | .st 27 => zrr
 | .st 28 => zq2
 | .st 29 => zpp
 | .st 30 => zph
 | .st (_ + 31) => fun l x r h => by cases h
theorem z1a : ∀ (t : Ty) (x : den t), (enc t x).length = szT t
 | .int _, _ => rfl
 | .bool, _ => rfl
 | .str, _ => rfl
 | .nil, _ => rfl
 | .sl _, _ => rfl
 | .st 0, _ => rfl
 | .st 1, _ => rfl
 | .st 2, _ => rfl
 | .st 3, _ => rfl
 | .st 4, _ => rfl
 | .st 5, _ => rfl
 | .st 6, _ => rfl
 | .st 7, _ => rfl
 | .st 8, _ => rfl
 | .st 9, _ => rfl
 | .st 10, _ => rfl
 | .st 11, _ => rfl
 | .st 12, _ => rfl
 | .st 13, _ => rfl
 | .st 14, _ => rfl
 | .st 15, _ => rfl
 | .st 16, _ => rfl
 | .st 17, _ => rfl
 | .st 18, _ => rfl
 | .st 19, _ => rfl
 | .st 20, _ => rfl
 | .st 21, _ => rfl
 | .st 22, _ => rfl
 | .st 23, _ => rfl
 | .st 24, _ => rfl
 | .st 25, _ => rfl
 | .st 26, _ => rfl
 | .st 27, _ => rfl
 | .st 28, _ => rfl
 | .st 29, _ => rfl
 | .st 30, _ => rfl
 | .st (_ + 31), _ => rfl
theorem z29 : ∀ t : Ty, 0 < szT t
 | .int _ => Nat.one_pos
 | .bool => Nat.one_pos
 | .str => Nat.one_pos
 | .nil => Nat.one_pos
 | .sl _ => Nat.one_pos
 | .st 0 => (by decide : 0 < 2)
 | .st 1 => (by decide : 0 < 4)
 | .st 2 => (by decide : 0 < 2)
 | .st 3 => (by decide : 0 < 3)
 | .st 4 => (by decide : 0 < 2)
 | .st 5 => (by decide : 0 < 3)
 | .st 6 => (by decide : 0 < 3)
 | .st 7 => (by decide : 0 < 2)
 | .st 8 => (by decide : 0 < 27)
 | .st 9 => (by decide : 0 < 4)
 | .st 10 => (by decide : 0 < 4)
 | .st 11 => (by decide : 0 < 7)
 | .st 12 => (by decide : 0 < 2)
 | .st 13 => (by decide : 0 < 10)
 | .st 14 => (by decide : 0 < 2)
 | .st 15 => (by decide : 0 < 4)
 | .st 16 => (by decide : 0 < 3)
 | .st 17 => (by decide : 0 < 4)
 | .st 18 => (by decide : 0 < 11)
 | .st 19 => (by decide : 0 < 8)
 | .st 20 => (by decide : 0 < 2)
 | .st 21 => (by decide : 0 < 2)
 | .st 22 => (by decide : 0 < 4)
 | .st 23 => (by decide : 0 < 16)
 | .st 24 => (by decide : 0 < 16)
 | .st 25 => (by decide : 0 < 13)
 | .st 26 => (by decide : 0 < 2)
 | .st 27 => (by decide : 0 < 5)
 | .st 28 => (by decide : 0 < 3)
 | .st 29 => (by decide : 0 < 4)
 | .st 30 => (by decide : 0 < 9)
 | .st (_ + 31) => Nat.one_pos
theorem z4t : ∀ (t : Ty) (x : den t), (enc t x).all (fzc (U := U)) = true
 | .int _, _ => rfl
 | .bool, _ => rfl
 | .str, _ => rfl
 | .nil, _ => rfl
 | .sl _, _ => rfl
 | .st 0, _ => rfl
 | .st 1, _ => rfl
 | .st 2, _ => rfl
 | .st 3, _ => rfl
 | .st 4, _ => rfl
 | .st 5, _ => rfl
 | .st 6, _ => rfl
 | .st 7, _ => rfl
 | .st 8, _ => rfl
 | .st 9, _ => rfl
 | .st 10, _ => rfl
 | .st 11, _ => rfl
 | .st 12, _ => rfl
 | .st 13, _ => rfl
 | .st 14, _ => rfl
 | .st 15, _ => rfl
 | .st 16, _ => rfl
 | .st 17, _ => rfl
 | .st 18, _ => rfl
 | .st 19, _ => rfl
 | .st 20, _ => rfl
 | .st 21, _ => rfl
 | .st 22, _ => rfl
 | .st 23, _ => rfl
 | .st 24, _ => rfl
 | .st 25, _ => rfl
 | .st 26, _ => rfl
 | .st 27, _ => rfl
 | .st 28, _ => rfl
 | .st 29, _ => rfl
 | .st 30, _ => rfl
 | .st (_ + 31), _ => rfl
theorem z2p : ∀ t : Ty, z1n t = true → ∀ x : den t, (enc t x).all (zyx (U := U)) = true
 | .int _, _, _ => rfl
 | .bool, _, _ => rfl
 | .str, _, _ => rfl
 | .nil, _, _ => rfl
 | .sl _, h, _ => by cases h
 | .st 0, _, _ => rfl
 | .st 1, _, _ => rfl
 | .st 2, _, _ => rfl
 | .st 3, _, _ => rfl
 | .st 4, h, _ => by cases h
 | .st 5, _, _ => rfl
 | .st 6, _, _ => rfl
 | .st 7, _, _ => rfl
 | .st 8, _, _ => rfl
 | .st 9, _, _ => rfl
 | .st 10, h, _ => by cases h
 | .st 11, h, _ => by cases h
 | .st 12, _, _ => rfl
 | .st 13, _, _ => rfl
 | .st 14, h, _ => by cases h
 | .st 15, _, _ => rfl
 | .st 16, h, _ => by cases h
 | .st 17, h, _ => by cases h
 | .st 18, h, _ => by cases h
 | .st 19, h, _ => by cases h
 | .st 20, _, _ => rfl
 | .st 21, _, _ => rfl
 | .st 22, _, _ => rfl
 | .st 23, _, _ => rfl
 | .st 24, h, _ => by cases h
 | .st 25, h, _ => by cases h
 | .st 26, h, _ => by cases h
 | .st 27, _, _ => rfl
 | .st 28, h, _ => by cases h
 | .st 29, _, _ => rfl
 | .st 30, _, _ => rfl
 | .st (_ + 31), _, _ => rfl
theorem z3f : ∀ t : Ty, z3x t = false → szT t = 1
 | .int _, _ => rfl
 | .bool, _ => rfl
 | .str, _ => rfl
 | .nil, _ => rfl
 | .sl _, _ => rfl
 | .st _, h => by cases h
theorem zgx : ELaws En where
 sz := z1a
 pos := z29
 fz := fun t x c hc => z0x (zxg (z4t t x) hc)
 one := z3f
 reify := fun t cs x h => by
  have h' : reify t cs = some x := h; unfold reify at h'; rw [Option.bind_eq_some_iff] at h'; obtain ⟨⟨y, r⟩, h1, h2⟩ := h'; cases r with
  | cons => cases h2
  | nil =>
   cases h2; obtain ⟨p, e, f⟩ := sp t cs _ _ h1; rw [List.append_nil] at e; subst e; exact ⟨f.length.trans (z1a t _), fun j c c' g1 g2 => f.get j c c' g1 g2⟩
 flat := fun t ht x c hc => zwh (zxg (z2p t ht x) hc)
 slAgg := fun _ => rfl
 slEnc := fun _ _ => rfl
 ofTo := fun _ _ => rfl
 u8sz := rfl
 u8 := fun x => ⟨x, rfl⟩
 toInts := fun xs i x n h1 h2 => by cases h2; exact h1
 toIntsLen := fun _ => rfl
 ofInts := fun l i n h => ⟨n, h, rfl⟩
 ofIntsLen := fun _ => rfl
theorem zqy {O : List (Nat × Ct U)} {X : List (Nat × Nat)} {J : List (Nat × Amx.Spec U × List Ty)} {pre : List (Nat × List Nat)} {lits ro pk bj : List Nat} : CLaws (zns O X J pre lits ro pk bj) :=
 z01 zgx (l := z1j) rfl (by kernel_rfl)
def ctv (ps : List (Md U)) (res outs : List Ty) (fr : List Nat) (ts : List Ty) (f : Fnc U ts (PT U (res ++ outs))) : Ct U := { params := ps, results := res, outs := outs, fresh := fr, fn := app U ts f }
def cvv (res ts : List Ty) (f : Fnc U ts (PT U (res ++ []))) : Ct U := ctv (ts.map .val) res [] [] ts f
def K0 : Ctx U := zns [] [] [] [] [] [] [] []
@[reducible] def Kq : Type := Kp K0
structure Cf where
 X : List (Nat × Nat) := []
 J : List (Nat × Amx.Spec U × List Ty) := []
 pre : List (Nat × List Nat) := []
 lits : List Nat := []
 ro : List Nat := []
 pk : List Nat := []
 bj : List Nat := []
def cxo (l : List Kq) (c : Cf) : Ctx U := zns (Osk l) c.X c.J c.pre c.lits c.ro c.pk c.bj
theorem go (l : List Kq) (c : Cf) {f : FuncId} {fn : Func} {ps : List (Md U)} {res outs : List Ty} {fr : List Nat} {ts : List Ty} {F : Fnc U ts (PT U (res ++ outs))} (L : List (Nat × Cut U (PT U ((ctv ps res outs fr ts F).results ++ (ctv ps res outs fr ts F).outs)))) (hf : Proofs.Tryz.prog.funcs[f]? = some fn) (hn : ((fn.name == "runtime.NumGoroutine") || !fn.body.isSome) = false := by kernel_rfl)
 (hok : zs2 (cxo l c) (ctv ps res outs fr ts F) = fun _ => true := by kernel_rfl) (hr : (cur ts (z0a (cxo l c) fn (ctv ps res outs fr ts F) (pick L)) : Fnc U ts (PT U (res ++ outs))) = F := by kernel_rfl) (hL : Ls (cxo l c) fn (ctv ps res outs fr ts F) (pick L) L := by exact trivial) (hX : ∀ p ∈ c.X, zql Proofs.Tryz.prog p := by exact zbq) : zf2 K0 f (ctv ps res outs fr ts F) := by
 rw [Bool.or_eq_false_iff] at hn
 exact zf2.ctx (C := cxo l c) (C' := K0) rfl rfl rfl (zze (C := cxo l c) zqy (z4k (C := cxo l c) (C0 := K0) (l := l) rfl rfl rfl rfl) (zpk (l := c.X) rfl hX) hf hn.1 (by simpa using hn.2) (z3i rfl hL) (fun y => congrFun hok y) (z2s hr))
theorem z30 : zql Proofs.Tryz.prog (331, 2) := z1q Proofs.Tryz.func331 (by kernel_rfl) (by kernel_rfl) (by kernel_rfl) (by kernel_rfl)
theorem z08 : zql Proofs.Tryz.prog (347, 0) := zyp Proofs.Tryz.func347 (by kernel_rfl) (by kernel_rfl) (by kernel_rfl) (by kernel_rfl)
theorem z3z : zql Proofs.Tryz.prog (355, 1) := zyo Proofs.Tryz.func355 (by kernel_rfl) (by kernel_rfl) (by kernel_rfl) (by kernel_rfl)
end
end Go.Proofs.YtppbpnknfigboaaGreatDoor.M
