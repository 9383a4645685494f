/- The program's types, and their cells. -/
import Derived.Test.YtppbpnknfigboaaGreatDoorA3
import Derived.Test.YtppbpnknfigboaaGreatDoorShelf
import Derived.KernelRfl
namespace Go.Proofs.YtppbpnknfigboaaGreatDoor.M
open Go Go.Amx
set_option linter.unusedVariables false
set_option maxRecDepth 100000
noncomputable section
structure hardware_form where
 fields : Int
 types : Int
structure runtime_boundsError where
 x : Int
 y : Int
 signed : Bool
 code : Int
structure runtime_errorAddressString where
 msg : ByteArray
 addr : Int
structure HwModel where
 Registers : Int
 Fused : Bool
 Memory : Bool
structure Storage where
 Bytes : ByteArray
 Tags : List Bool
structure HwPlace where
 Based : Bool
 Pointer : Int
 Offset : Int
structure DataType where
 Kind : Int
 Length : Int
 Scale : Int
structure Number where
 N : Int
 Scale : Int
structure HwInstruction where
 Op : Int
 R : Int
 A : Int
 B : Int
 Calculation : Int
 Place : HwPlace
 From : HwPlace
 Type_ : DataType
 Second : DataType
 Half : Bool
 InStorage : Bool
 Number : Number
 Text : ByteArray
 Other : ByteArray
 Mask : Int
 Target : Int
 Pointer : Int
 Source : Int
structure HwTrap where
 From : Int
 To : Int
 Exception : Int
 Handler : Int
structure HwCode where
 Storage : Storage
 Instructions : List HwInstruction
 Traps : List HwTrap
structure HwResult where
 Lines : List ByteArray
 Status : Int
 Exception : Int
 Marks : Int
 Steps : Int
 Storage : Storage
structure Value where
 N : Int
 S : ByteArray
structure MiOperand where
 Name : ByteArray
 Kind : Int
 Type_ : DataType
 Value : Value
 Base : ByteArray
 Offset : Int
 Target : Int
structure MiInstruction where
 Op : Int
 Args : List Int
structure MiMonitor where
 From : Int
 To : Int
 Exception : Int
 Handler : Int
structure MiProgram where
 Operands : List MiOperand
 Instructions : List MiInstruction
 Monitors : List MiMonitor
structure MiResult where
 Lines : List ByteArray
 Status : Int
 Exception : Int
 Steps : Int
structure HwState where
 Registers : List Number
 Condition : Int
 Storage : Storage
 At : Int
 Stack : List Int
 Lines : List ByteArray
 Status : Int
 Exception : Int
 Marks : Int
 Steps : Int
structure MiState where
 Storage : Storage
 At : Int
 Stack : List Int
 Lines : List ByteArray
 Status : Int
 Exception : Int
 Steps : Int
structure MiPlace where
 Part : Int
 Index : Int
structure Address where
 Segment : Int
 Offset : Int
structure Pointer where
 Kind : Int
 Address : Address
 Authority : Int
structure ref15_fields where
 R : Bool
 A : Bool
 B : Bool
 Place : Bool
 From : Bool
 Half : Bool
 Number : Bool
 Calculation : Bool
 Mask : Bool
 Target : Bool
 Text : Bool
 Other : Bool
 Pointer : Bool
 Source : Bool
 Type_ : Int
 Second : Int
structure hardware_machine where
 HwState : HwState
 code : HwCode
 raised : Int
structure interpret_machine where
 MiProgram : MiProgram
 MiState : MiState
 layout : List Int
 raised : Int
structure ref01_Long where
 Below : Bool
 Digits : List Int
structure ref01_Request where
 Op : Int
 Type_ : DataType
 Half : Bool
structure ref01_Fraction where
 Top : ref01_Long
 Bottom : List Int
structure A4_u64 where
 e0 : Int
 e1 : Int
 e2 : Int
 e3 : Int
structure numeric_fraction where
 below : Bool
 amount : A4_u64
 division : A4_u64
inductive Ty where
 | int (k : IntKind)
 | bool
 | str
 | nil
 | sl (t : Ty)
 | st (n : Nat)
@[reducible] def z5s : Nat → Type
 | 0 => hardware_form
 | 1 => runtime_boundsError
 | 2 => runtime_errorAddressString
 | 3 => HwModel
 | 4 => Storage
 | 5 => HwPlace
 | 6 => DataType
 | 7 => Number
 | 8 => HwInstruction
 | 9 => HwTrap
 | 10 => HwCode
 | 11 => HwResult
 | 12 => Value
 | 13 => MiOperand
 | 14 => MiInstruction
 | 15 => MiMonitor
 | 16 => MiProgram
 | 17 => MiResult
 | 18 => HwState
 | 19 => MiState
 | 20 => MiPlace
 | 21 => Address
 | 22 => Pointer
 | 23 => ref15_fields
 | 24 => hardware_machine
 | 25 => interpret_machine
 | 26 => ref01_Long
 | 27 => ref01_Request
 | 28 => ref01_Fraction
 | 29 => A4_u64
 | 30 => numeric_fraction
 | _ + 31 => Unit
@[reducible] def den : Ty → Type
 | .int _ => Int
 | .bool => Bool
 | .str => ByteArray
 | .nil => Unit
 | .sl t => List (den t)
 | .st n => z5s n
def eqTy : (a b : Ty) → Option (PLift (a = b))
 | .int j, .int k => if h : j = k then some ⟨by rw [h]⟩ else none
 | .bool, .bool => some ⟨rfl⟩
 | .str, .str => some ⟨rfl⟩
 | .nil, .nil => some ⟨rfl⟩
 | .sl a, .sl b => match eqTy a b with
  | some ⟨h⟩ => some ⟨by rw [h]⟩
  | none => none
 | .st i, .st j => if h : i = j then some ⟨by rw [h]⟩ else none
 | _, _ => none
@[reducible] def U : Uni := { Ty := Ty, den := den, eqTy := eqTy }
@[reducible] def T6 : Ty := Ty.int .i64
def w6 (n : Int) : Int := IntKind.wrap .i64 n
@[reducible] def Ty.hardware_form : Ty := .st 0
@[reducible] def Ty.runtime_boundsError : Ty := .st 1
@[reducible] def Ty.runtime_errorAddressString : Ty := .st 2
@[reducible] def Ty.HwModel : Ty := .st 3
@[reducible] def Ty.Storage : Ty := .st 4
@[reducible] def Ty.HwPlace : Ty := .st 5
@[reducible] def Ty.DataType : Ty := .st 6
@[reducible] def Ty.Number : Ty := .st 7
@[reducible] def Ty.HwInstruction : Ty := .st 8
@[reducible] def Ty.HwTrap : Ty := .st 9
@[reducible] def Ty.HwCode : Ty := .st 10
@[reducible] def Ty.HwResult : Ty := .st 11
@[reducible] def Ty.Value : Ty := .st 12
@[reducible] def Ty.MiOperand : Ty := .st 13
@[reducible] def Ty.MiInstruction : Ty := .st 14
@[reducible] def Ty.MiMonitor : Ty := .st 15
@[reducible] def Ty.MiProgram : Ty := .st 16
@[reducible] def Ty.MiResult : Ty := .st 17
@[reducible] def Ty.HwState : Ty := .st 18
@[reducible] def Ty.MiState : Ty := .st 19
@[reducible] def Ty.MiPlace : Ty := .st 20
@[reducible] def Ty.Address : Ty := .st 21
@[reducible] def Ty.Pointer : Ty := .st 22
@[reducible] def Ty.ref15_fields : Ty := .st 23
@[reducible] def Ty.hardware_machine : Ty := .st 24
@[reducible] def Ty.interpret_machine : Ty := .st 25
@[reducible] def Ty.ref01_Long : Ty := .st 26
@[reducible] def Ty.ref01_Request : Ty := .st 27
@[reducible] def Ty.ref01_Fraction : Ty := .st 28
@[reducible] def Ty.A4_u64 : Ty := .st 29
@[reducible] def Ty.numeric_fraction : Ty := .st 30
def zba (k : IntKind) : List (AV U) → Option (Int × List (AV U))
 | .sc (.int k' n) :: l => if k = k' then some (n, l) else none
 | _ => none
def zfn : List (AV U) → Option (Bool × List (AV U))
 | .sc (.bool b) :: l => some (b, l)
 | _ => none
def zrs : List (AV U) → Option (ByteArray × List (AV U))
 | .sc (.string s) :: l => some (s, l)
 | _ => none
def z9q : List (AV U) → Option (Unit × List (AV U))
 | .sc (.slice none 0 0) :: l => some ((), l)
 | _ => none
def rSl (t : Ty) : List (AV U) → Option (List (den t) × List (AV U))
 | .lst t' xs :: l => (U.eqTy t' t).map fun e => (zz2 e xs, l)
 | .sc (.slice none 0 0) :: l => some ([], l)
 | _ => none
def zn1 (l : List (AV U)) : Option (hardware_form × List (AV U)) := (zba .i64 l).bind fun x0 => (zba .i64 x0.2).bind fun x1 => some (⟨x0.1, x1.1⟩, x1.2)
def zka (l : List (AV U)) : Option (runtime_boundsError × List (AV U)) := (zba .i64 l).bind fun x0 => (zba .i64 x0.2).bind fun x1 => (zfn x1.2).bind fun x2 => (zba .u8 x2.2).bind fun x3 => some (⟨x0.1, x1.1, x2.1, x3.1⟩, x3.2)
def zhp (l : List (AV U)) : Option (runtime_errorAddressString × List (AV U)) := (zrs l).bind fun x0 => (zba .u64 x0.2).bind fun x1 => some (⟨x0.1, x1.1⟩, x1.2)
def zyd (l : List (AV U)) : Option (HwModel × List (AV U)) := (zba .i64 l).bind fun x0 => (zfn x0.2).bind fun x1 => (zfn x1.2).bind fun x2 => some (⟨x0.1, x1.1, x2.1⟩, x2.2)
def zmn (l : List (AV U)) : Option (Storage × List (AV U)) := (zrs l).bind fun x0 => (rSl Ty.bool x0.2).bind fun x1 => some (⟨x0.1, x1.1⟩, x1.2)
def zqj (l : List (AV U)) : Option (HwPlace × List (AV U)) := (zfn l).bind fun x0 => (zba .i64 x0.2).bind fun x1 => (zba .i64 x1.2).bind fun x2 => some (⟨x0.1, x1.1, x2.1⟩, x2.2)
def zlb (l : List (AV U)) : Option (DataType × List (AV U)) := (zba .i64 l).bind fun x0 => (zba .i64 x0.2).bind fun x1 => (zba .i64 x1.2).bind fun x2 => some (⟨x0.1, x1.1, x2.1⟩, x2.2)
def zwc (l : List (AV U)) : Option (Number × List (AV U)) := (zba .i64 l).bind fun x0 => (zba .i64 x0.2).bind fun x1 => some (⟨x0.1, x1.1⟩, x1.2)
def zn4 (l : List (AV U)) : Option (HwInstruction × List (AV U)) := (zba .i64 l).bind fun x0 => (zba .i64 x0.2).bind fun x1 => (zba .i64 x1.2).bind fun x2 => (zba .i64 x2.2).bind fun x3 => (zba .i64 x3.2).bind fun x4 => (zqj x4.2).bind fun x5 => (zqj x5.2).bind fun x6 => (zlb x6.2).bind fun x7 => (zlb x7.2).bind fun x8 => (zfn x8.2).bind fun x9 => (zfn x9.2).bind fun x10 => (zwc x10.2).bind fun x11 => (zrs x11.2).bind fun x12 => (zrs x12.2).bind fun x13 => (zba .i64 x13.2).bind fun x14 => (zba .i64 x14.2).bind fun x15 => (zba .i64 x15.2).bind fun x16 => (zba .i64 x16.2).bind fun x17 => some (⟨x0.1, x1.1, x2.1, x3.1, x4.1, x5.1, x6.1, x7.1, x8.1, x9.1, x10.1, x11.1, x12.1, x13.1, x14.1, x15.1, x16.1, x17.1⟩, x17.2)
def z0e (l : List (AV U)) : Option (HwTrap × List (AV U)) := (zba .i64 l).bind fun x0 => (zba .i64 x0.2).bind fun x1 => (zba .i64 x1.2).bind fun x2 => (zba .i64 x2.2).bind fun x3 => some (⟨x0.1, x1.1, x2.1, x3.1⟩, x3.2)
def zwd (l : List (AV U)) : Option (HwCode × List (AV U)) := (zmn l).bind fun x0 => (rSl Ty.HwInstruction x0.2).bind fun x1 => (rSl Ty.HwTrap x1.2).bind fun x2 => some (⟨x0.1, x1.1, x2.1⟩, x2.2)
def zuy (l : List (AV U)) : Option (HwResult × List (AV U)) := (rSl Ty.str l).bind fun x0 => (zba .i64 x0.2).bind fun x1 => (zba .i64 x1.2).bind fun x2 => (zba .i64 x2.2).bind fun x3 => (zba .i64 x3.2).bind fun x4 => (zmn x4.2).bind fun x5 => some (⟨x0.1, x1.1, x2.1, x3.1, x4.1, x5.1⟩, x5.2)
def zzf (l : List (AV U)) : Option (Value × List (AV U)) := (zba .i64 l).bind fun x0 => (zrs x0.2).bind fun x1 => some (⟨x0.1, x1.1⟩, x1.2)
def zs5 (l : List (AV U)) : Option (MiOperand × List (AV U)) := (zrs l).bind fun x0 => (zba .i64 x0.2).bind fun x1 => (zlb x1.2).bind fun x2 => (zzf x2.2).bind fun x3 => (zrs x3.2).bind fun x4 => (zba .i64 x4.2).bind fun x5 => (zba .i64 x5.2).bind fun x6 => some (⟨x0.1, x1.1, x2.1, x3.1, x4.1, x5.1, x6.1⟩, x6.2)
def zn3 (l : List (AV U)) : Option (MiInstruction × List (AV U)) := (zba .i64 l).bind fun x0 => (rSl (Ty.int .i64) x0.2).bind fun x1 => some (⟨x0.1, x1.1⟩, x1.2)
def zs6 (l : List (AV U)) : Option (MiMonitor × List (AV U)) := (zba .i64 l).bind fun x0 => (zba .i64 x0.2).bind fun x1 => (zba .i64 x1.2).bind fun x2 => (zba .i64 x2.2).bind fun x3 => some (⟨x0.1, x1.1, x2.1, x3.1⟩, x3.2)
def zpw (l : List (AV U)) : Option (MiProgram × List (AV U)) := (rSl Ty.MiOperand l).bind fun x0 => (rSl Ty.MiInstruction x0.2).bind fun x1 => (rSl Ty.MiMonitor x1.2).bind fun x2 => some (⟨x0.1, x1.1, x2.1⟩, x2.2)
def zux (l : List (AV U)) : Option (MiResult × List (AV U)) := (rSl Ty.str l).bind fun x0 => (zba .i64 x0.2).bind fun x1 => (zba .i64 x1.2).bind fun x2 => (zba .i64 x2.2).bind fun x3 => some (⟨x0.1, x1.1, x2.1, x3.1⟩, x3.2)
def zs7 (l : List (AV U)) : Option (HwState × List (AV U)) := (rSl Ty.Number l).bind fun x0 => (zba .i64 x0.2).bind fun x1 => (zmn x1.2).bind fun x2 => (zba .i64 x2.2).bind fun x3 => (rSl (Ty.int .i64) x3.2).bind fun x4 => (rSl Ty.str x4.2).bind fun x5 => (zba .i64 x5.2).bind fun x6 => (zba .i64 x6.2).bind fun x7 => (zba .i64 x7.2).bind fun x8 => (zba .i64 x8.2).bind fun x9 => some (⟨x0.1, x1.1, x2.1, x3.1, x4.1, x5.1, x6.1, x7.1, x8.1, x9.1⟩, x9.2)
def zs4 (l : List (AV U)) : Option (MiState × List (AV U)) := (zmn l).bind fun x0 => (zba .i64 x0.2).bind fun x1 => (rSl (Ty.int .i64) x1.2).bind fun x2 => (rSl Ty.str x2.2).bind fun x3 => (zba .i64 x3.2).bind fun x4 => (zba .i64 x4.2).bind fun x5 => (zba .i64 x5.2).bind fun x6 => some (⟨x0.1, x1.1, x2.1, x3.1, x4.1, x5.1, x6.1⟩, x6.2)
def zyc (l : List (AV U)) : Option (MiPlace × List (AV U)) := (zba .i64 l).bind fun x0 => (zba .i64 x0.2).bind fun x1 => some (⟨x0.1, x1.1⟩, x1.2)
def zs8 (l : List (AV U)) : Option (Address × List (AV U)) := (zba .i64 l).bind fun x0 => (zba .i64 x0.2).bind fun x1 => some (⟨x0.1, x1.1⟩, x1.2)
def zyb (l : List (AV U)) : Option (Pointer × List (AV U)) := (zba .i64 l).bind fun x0 => (zs8 x0.2).bind fun x1 => (zba .i64 x1.2).bind fun x2 => some (⟨x0.1, x1.1, x2.1⟩, x2.2)
def zpj (l : List (AV U)) : Option (ref15_fields × List (AV U)) := (zfn l).bind fun x0 => (zfn x0.2).bind fun x1 => (zfn x1.2).bind fun x2 => (zfn x2.2).bind fun x3 => (zfn x3.2).bind fun x4 => (zfn x4.2).bind fun x5 => (zfn x5.2).bind fun x6 => (zfn x6.2).bind fun x7 => (zfn x7.2).bind fun x8 => (zfn x8.2).bind fun x9 => (zfn x9.2).bind fun x10 => (zfn x10.2).bind fun x11 => (zfn x11.2).bind fun x12 => (zfn x12.2).bind fun x13 => (zba .i64 x13.2).bind fun x14 => (zba .i64 x14.2).bind fun x15 => some (⟨x0.1, x1.1, x2.1, x3.1, x4.1, x5.1, x6.1, x7.1, x8.1, x9.1, x10.1, x11.1, x12.1, x13.1, x14.1, x15.1⟩, x15.2)
def zly (l : List (AV U)) : Option (hardware_machine × List (AV U)) := (zs7 l).bind fun x0 => (zwd x0.2).bind fun x1 => (zba .i64 x1.2).bind fun x2 => some (⟨x0.1, x1.1, x2.1⟩, x2.2)
def zk6 (l : List (AV U)) : Option (interpret_machine × List (AV U)) := (zpw l).bind fun x0 => (zs4 x0.2).bind fun x1 => (rSl (Ty.int .i64) x1.2).bind fun x2 => (zba .i64 x2.2).bind fun x3 => some (⟨x0.1, x1.1, x2.1, x3.1⟩, x3.2)
def zop (l : List (AV U)) : Option (ref01_Long × List (AV U)) := (zfn l).bind fun x0 => (rSl (Ty.int .i64) x0.2).bind fun x1 => some (⟨x0.1, x1.1⟩, x1.2)
def zny (l : List (AV U)) : Option (ref01_Request × List (AV U)) := (zba .i64 l).bind fun x0 => (zlb x0.2).bind fun x1 => (zfn x1.2).bind fun x2 => some (⟨x0.1, x1.1, x2.1⟩, x2.2)
def zm8 (l : List (AV U)) : Option (ref01_Fraction × List (AV U)) := (zop l).bind fun x0 => (rSl (Ty.int .i64) x0.2).bind fun x1 => some (⟨x0.1, x1.1⟩, x1.2)
def zr6 (l : List (AV U)) : Option (A4_u64 × List (AV U)) := (zba .u64 l).bind fun x0 => (zba .u64 x0.2).bind fun x1 => (zba .u64 x1.2).bind fun x2 => (zba .u64 x2.2).bind fun x3 => some (⟨x0.1, x1.1, x2.1, x3.1⟩, x3.2)
def zlx (l : List (AV U)) : Option (numeric_fraction × List (AV U)) := (zfn l).bind fun x0 => (zr6 x0.2).bind fun x1 => (zr6 x1.2).bind fun x2 => some (⟨x0.1, x1.1, x2.1⟩, x2.2)
def zse (x : hardware_form) : List (AV U) := [.sc (.int .i64 x.fields), .sc (.int .i64 x.types)]
def znl (x : runtime_boundsError) : List (AV U) := [.sc (.int .i64 x.x), .sc (.int .i64 x.y), .sc (.bool x.signed), .sc (.int .u8 x.code)]
def zj8 (x : runtime_errorAddressString) : List (AV U) := [.sc (.string x.msg), .sc (.int .u64 x.addr)]
def z3v (x : HwModel) : List (AV U) := [.sc (.int .i64 x.Registers), .sc (.bool x.Fused), .sc (.bool x.Memory)]
def z3p (x : Storage) : List (AV U) := [.sc (.string x.Bytes), .lst Ty.bool x.Tags]
def z3u (x : HwPlace) : List (AV U) := [.sc (.bool x.Based), .sc (.int .i64 x.Pointer), .sc (.int .i64 x.Offset)]
def z1f (x : DataType) : List (AV U) := [.sc (.int .i64 x.Kind), .sc (.int .i64 x.Length), .sc (.int .i64 x.Scale)]
def z49 (x : Number) : List (AV U) := [.sc (.int .i64 x.N), .sc (.int .i64 x.Scale)]
def zin (x : HwInstruction) : List (AV U) := [.sc (.int .i64 x.Op), .sc (.int .i64 x.R), .sc (.int .i64 x.A), .sc (.int .i64 x.B), .sc (.int .i64 x.Calculation), .sc (.bool x.Place.Based), .sc (.int .i64 x.Place.Pointer), .sc (.int .i64 x.Place.Offset), .sc (.bool x.From.Based), .sc (.int .i64 x.From.Pointer), .sc (.int .i64 x.From.Offset), .sc (.int .i64 x.Type_.Kind), .sc (.int .i64 x.Type_.Length), .sc (.int .i64 x.Type_.Scale), .sc (.int .i64 x.Second.Kind), .sc (.int .i64 x.Second.Length), .sc (.int .i64 x.Second.Scale), .sc (.bool x.Half), .sc (.bool x.InStorage), .sc (.int .i64 x.Number.N), .sc (.int .i64 x.Number.Scale), .sc (.string x.Text), .sc (.string x.Other), .sc (.int .i64 x.Mask), .sc (.int .i64 x.Target), .sc (.int .i64 x.Pointer), .sc (.int .i64 x.Source)]
def z5a (x : HwTrap) : List (AV U) := [.sc (.int .i64 x.From), .sc (.int .i64 x.To), .sc (.int .i64 x.Exception), .sc (.int .i64 x.Handler)]
def zks (x : HwCode) : List (AV U) := [.sc (.string x.Storage.Bytes), .lst Ty.bool x.Storage.Tags, .lst Ty.HwInstruction x.Instructions, .lst Ty.HwTrap x.Traps]
def z1e (x : HwResult) : List (AV U) := [.lst Ty.str x.Lines, .sc (.int .i64 x.Status), .sc (.int .i64 x.Exception), .sc (.int .i64 x.Marks), .sc (.int .i64 x.Steps), .sc (.string x.Storage.Bytes), .lst Ty.bool x.Storage.Tags]
def z8n (x : Value) : List (AV U) := [.sc (.int .i64 x.N), .sc (.string x.S)]
def zzw (x : MiOperand) : List (AV U) := [.sc (.string x.Name), .sc (.int .i64 x.Kind), .sc (.int .i64 x.Type_.Kind), .sc (.int .i64 x.Type_.Length), .sc (.int .i64 x.Type_.Scale), .sc (.int .i64 x.Value.N), .sc (.string x.Value.S), .sc (.string x.Base), .sc (.int .i64 x.Offset), .sc (.int .i64 x.Target)]
def zsg (x : MiInstruction) : List (AV U) := [.sc (.int .i64 x.Op), .lst (Ty.int .i64) x.Args]
def zzx (x : MiMonitor) : List (AV U) := [.sc (.int .i64 x.From), .sc (.int .i64 x.To), .sc (.int .i64 x.Exception), .sc (.int .i64 x.Handler)]
def zzv (x : MiProgram) : List (AV U) := [.lst Ty.MiOperand x.Operands, .lst Ty.MiInstruction x.Instructions, .lst Ty.MiMonitor x.Monitors]
def z1d (x : MiResult) : List (AV U) := [.lst Ty.str x.Lines, .sc (.int .i64 x.Status), .sc (.int .i64 x.Exception), .sc (.int .i64 x.Steps)]
def z3t (x : HwState) : List (AV U) := [.lst Ty.Number x.Registers, .sc (.int .i64 x.Condition), .sc (.string x.Storage.Bytes), .lst Ty.bool x.Storage.Tags, .sc (.int .i64 x.At), .lst (Ty.int .i64) x.Stack, .lst Ty.str x.Lines, .sc (.int .i64 x.Status), .sc (.int .i64 x.Exception), .sc (.int .i64 x.Marks), .sc (.int .i64 x.Steps)]
def z3r (x : MiState) : List (AV U) := [.sc (.string x.Storage.Bytes), .lst Ty.bool x.Storage.Tags, .sc (.int .i64 x.At), .lst (Ty.int .i64) x.Stack, .lst Ty.str x.Lines, .sc (.int .i64 x.Status), .sc (.int .i64 x.Exception), .sc (.int .i64 x.Steps)]
def z3s (x : MiPlace) : List (AV U) := [.sc (.int .i64 x.Part), .sc (.int .i64 x.Index)]
def z3w (x : Address) : List (AV U) := [.sc (.int .i64 x.Segment), .sc (.int .i64 x.Offset)]
def z3q (x : Pointer) : List (AV U) := [.sc (.int .i64 x.Kind), .sc (.int .i64 x.Address.Segment), .sc (.int .i64 x.Address.Offset), .sc (.int .i64 x.Authority)]
def zt3 (x : ref15_fields) : List (AV U) := [.sc (.bool x.R), .sc (.bool x.A), .sc (.bool x.B), .sc (.bool x.Place), .sc (.bool x.From), .sc (.bool x.Half), .sc (.bool x.Number), .sc (.bool x.Calculation), .sc (.bool x.Mask), .sc (.bool x.Target), .sc (.bool x.Text), .sc (.bool x.Other), .sc (.bool x.Pointer), .sc (.bool x.Source), .sc (.int .i64 x.Type_), .sc (.int .i64 x.Second)]
def zpp (x : hardware_machine) : List (AV U) := [.lst Ty.Number x.HwState.Registers, .sc (.int .i64 x.HwState.Condition), .sc (.string x.HwState.Storage.Bytes), .lst Ty.bool x.HwState.Storage.Tags, .sc (.int .i64 x.HwState.At), .lst (Ty.int .i64) x.HwState.Stack, .lst Ty.str x.HwState.Lines, .sc (.int .i64 x.HwState.Status), .sc (.int .i64 x.HwState.Exception), .sc (.int .i64 x.HwState.Marks), .sc (.int .i64 x.HwState.Steps), .sc (.string x.code.Storage.Bytes), .lst Ty.bool x.code.Storage.Tags, .lst Ty.HwInstruction x.code.Instructions, .lst Ty.HwTrap x.code.Traps, .sc (.int .i64 x.raised)]
def zpf (x : interpret_machine) : List (AV U) := [.lst Ty.MiOperand x.MiProgram.Operands, .lst Ty.MiInstruction x.MiProgram.Instructions, .lst Ty.MiMonitor x.MiProgram.Monitors, .sc (.string x.MiState.Storage.Bytes), .lst Ty.bool x.MiState.Storage.Tags, .sc (.int .i64 x.MiState.At), .lst (Ty.int .i64) x.MiState.Stack, .lst Ty.str x.MiState.Lines, .sc (.int .i64 x.MiState.Status), .sc (.int .i64 x.MiState.Exception), .sc (.int .i64 x.MiState.Steps), .lst (Ty.int .i64) x.layout, .sc (.int .i64 x.raised)]
def zxi (x : ref01_Long) : List (AV U) := [.sc (.bool x.Below), .lst (Ty.int .i64) x.Digits]
def zsd (x : ref01_Request) : List (AV U) := [.sc (.int .i64 x.Op), .sc (.int .i64 x.Type_.Kind), .sc (.int .i64 x.Type_.Length), .sc (.int .i64 x.Type_.Scale), .sc (.bool x.Half)]
def zrc (x : ref01_Fraction) : List (AV U) := [.sc (.bool x.Top.Below), .lst (Ty.int .i64) x.Top.Digits, .lst (Ty.int .i64) x.Bottom]
def z5b (x : A4_u64) : List (AV U) := [.sc (.int .u64 x.e0), .sc (.int .u64 x.e1), .sc (.int .u64 x.e2), .sc (.int .u64 x.e3)]
def zpo (x : numeric_fraction) : List (AV U) := [.sc (.bool x.below), .sc (.int .u64 x.amount.e0), .sc (.int .u64 x.amount.e1), .sc (.int .u64 x.amount.e2), .sc (.int .u64 x.amount.e3), .sc (.int .u64 x.division.e0), .sc (.int .u64 x.division.e1), .sc (.int .u64 x.division.e2), .sc (.int .u64 x.division.e3)]
def zagu : (n : Nat) → z5s n → List (AV U)
 | 0, x => zse x
 | 1, x => znl x
 | 2, x => zj8 x
 | 3, x => z3v x
 | 4, x => z3p x
 | 5, x => z3u x
 | 6, x => z1f x
 | 7, x => z49 x
 | 8, x => zin x
 | 9, x => z5a x
 | 10, x => zks x
 | 11, x => z1e x
 | 12, x => z8n x
 | 13, x => zzw x
 | 14, x => zsg x
 | 15, x => zzx x
 | 16, x => zzv x
 | 17, x => z1d x
 | 18, x => z3t x
 | 19, x => z3r x
 | 20, x => z3s x
 | 21, x => z3w x
 | 22, x => z3q x
 | 23, x => zt3 x
 | 24, x => zpp x
 | 25, x => zpf x
 | 26, x => zxi x
 | 27, x => zsd x
 | 28, x => zrc x
 | 29, x => z5b x
 | 30, x => zpo x
 | _ + 31, _ => [.sc (.bool true)]
def rdSt : (n : Nat) → List (AV U) → Option (z5s n × List (AV U))
 | 0, l => zn1 l
 | 1, l => zka l
 | 2, l => zhp l
 | 3, l => zyd l
 | 4, l => zmn l
 | 5, l => zqj l
 | 6, l => zlb l
 | 7, l => zwc l
 | 8, l => zn4 l
 | 9, l => z0e l
 | 10, l => zwd l
 | 11, l => zuy l
 | 12, l => zzf l
 | 13, l => zs5 l
 | 14, l => zn3 l
 | 15, l => zs6 l
 | 16, l => zpw l
 | 17, l => zux l
 | 18, l => zs7 l
 | 19, l => zs4 l
 | 20, l => zyc l
 | 21, l => zs8 l
 | 22, l => zyb l
 | 23, l => zpj l
 | 24, l => zly l
 | 25, l => zk6 l
 | 26, l => zop l
 | 27, l => zny l
 | 28, l => zm8 l
 | 29, l => zr6 l
 | 30, l => zlx l
 | _ + 31, _ => none
def enc : (t : Ty) → den t → List (AV U)
 | .int k, n => [.sc (.int k n)]
 | .bool, b => [.sc (.bool b)]
 | .str, s => [.sc (.string s)]
 | .nil, _ => [.sc (.slice none 0 0)]
 | .sl t, xs => [.lst t xs]
 | .st n, x => zagu n x
def rd : (t : Ty) → List (AV U) → Option (den t × List (AV U))
 | .int k, l => zba k l
 | .bool, l => zfn l
 | .str, l => zrs l
 | .nil, l => z9q l
 | .sl t, l => rSl t l
 | .st n, l => rdSt n l
def reify (t : Ty) (l : List (AV U)) : Option (den t) := (rd t l).bind fun r => match r.2 with
 | [] => some r.1
 | _ => none
def szSt : Nat → Nat
 | 0 => 2
 | 1 => 4
 | 2 => 2
 | 3 => 3
 | 4 => 2
 | 5 => 3
 | 6 => 3
 | 7 => 2
 | 8 => 27
 | 9 => 4
 | 10 => 4
 | 11 => 7
 | 12 => 2
 | 13 => 10
 | 14 => 2
 | 15 => 4
 | 16 => 3
 | 17 => 4
 | 18 => 11
 | 19 => 8
 | 20 => 2
 | 21 => 2
 | 22 => 4
 | 23 => 16
 | 24 => 16
 | 25 => 13
 | 26 => 2
 | 27 => 5
 | 28 => 3
 | 29 => 4
 | 30 => 9
 | _ + 31 => 1
def zady : Nat → Bool
 | 0 => true
 | 1 => true
 | 2 => true
 | 3 => true
 | 4 => false
 | 5 => true
 | 6 => true
 | 7 => true
 | 8 => true
 | 9 => true
 | 10 => false
 | 11 => false
 | 12 => true
 | 13 => true
 | 14 => false
 | 15 => true
 | 16 => false
 | 17 => false
 | 18 => false
 | 19 => false
 | 20 => true
 | 21 => true
 | 22 => true
 | 23 => true
 | 24 => false
 | 25 => false
 | 26 => false
 | 27 => true
 | 28 => false
 | 29 => true
 | 30 => true
 | _ + 31 => true
def szT : Ty → Nat
 | .st n => szSt n
 | _ => 1
def aggT : Ty → Bool
 | .st _ => true
 | _ => false
def zaas : Ty → Bool
 | .sl _ => false
 | .st n => zady n
 | _ => true
def zaao : List (Nat × Ty) := [(2, (Ty.int .i64)), (3, (Ty.int .i64)), (4, Ty.bool), (5, (Ty.int .u8)), (6, (Ty.int .u8)), (8, Ty.runtime_boundsError), (9, Ty.str), (10, Ty.str), (11, Ty.str), (12, (Ty.int .u64)), (14, Ty.runtime_errorAddressString), (21, (Ty.int .i32)), (23, Ty.HwModel), (24, (Ty.sl Ty.bool)), (26, Ty.Storage), (27, (Ty.sl Ty.HwInstruction)), (28, (Ty.sl Ty.HwTrap)), (30, Ty.HwCode), (33, (Ty.int .i64)), (42, (Ty.sl Ty.str)), (44, Ty.HwResult), (54, (Ty.sl Ty.MiOperand)), (55, (Ty.sl Ty.MiInstruction)), (56, (Ty.sl Ty.MiMonitor)), (58, Ty.MiProgram), (61, Ty.MiResult), (68, (Ty.sl Ty.Number)), (69, (Ty.sl (Ty.int .i64))), (71, Ty.HwState), (84, Ty.Number), (89, Ty.HwPlace), (91, Ty.DataType), (93, Ty.HwInstruction), (101, Ty.HwTrap), (117, Ty.Value), (119, Ty.MiOperand), (121, Ty.MiInstruction), (123, Ty.MiState), (128, Ty.MiPlace), (142, Ty.Address), (144, Ty.Pointer), (154, (Ty.sl (Ty.int .i64))), (159, Ty.hardware_form), (164, Ty.ref15_fields), (173, Ty.hardware_machine), (186, Ty.MiMonitor), (203, (Ty.sl (Ty.int .u8))), (224, Ty.interpret_machine), (248, Ty.ref01_Long), (262, Ty.ref01_Request), (263, (Ty.int .u64)), (312, Ty.ref01_Fraction), (321, (Ty.int .u64)), (322, Ty.A4_u64), (323, Ty.A4_u64), (325, Ty.numeric_fraction), (348, (Ty.int .i8)), (374, (Ty.int .u32)), (383, (Ty.sl (Ty.sl (Ty.int .u8)))), (405, (Ty.int .u8)), (406, (Ty.int .u8)), (408, (Ty.int .i32)), (409, (Ty.int .i32))]
def En : Enc U := { sz := szT, agg := aggT, flat := zaas, enc := enc, reify := reify, ofGo := pick zaao, sl := Ty.sl, toSl := fun _ xs => xs, ofSl := fun _ xs => xs, u8 := .int .u8, ofInts := fun l => l, toInts := fun l => l }
def z6l : List hardware_form := [⟨41, 1⟩, ⟨169, 1⟩, ⟨257, 0⟩, ⟨3, 0⟩, ⟨32807, 1⟩, ⟨6, 0⟩, ⟨6144, 0⟩, ⟨6150, 0⟩, ⟨4096, 0⟩, ⟨120, 2⟩, ⟨552, 2⟩, ⟨120, 2⟩, ⟨552, 2⟩, ⟨1536, 0⟩, ⟨8232, 3⟩, ⟨24576, 0⟩, ⟨8193, 0⟩, ⟨8192, 0⟩, ⟨4096, 0⟩, ⟨0, 0⟩, ⟨1, 0⟩, ⟨1, 0⟩, ⟨1, 0⟩, ⟨40, 2⟩, ⟨512, 0⟩, ⟨0, 0⟩, ⟨0, 0⟩]
def zaaq : List Int := [1, 10, 100, 1000, 10000, 100000, 1000000, 10000000, 100000000, 1000000000, 10000000000, 100000000000, 1000000000000, 10000000000000, 100000000000000, 1000000000000000, 10000000000000000, 100000000000000000, 1000000000000000000, 10000000000000000000]
def zagb : List Int := [0, 1, 28, 2, 29, 14, 24, 3, 30, 22, 20, 15, 25, 17, 4, 8, 31, 27, 13, 23, 21, 19, 16, 7, 26, 12, 18, 6, 11, 5, 10, 9]
def zaga : List Int := [0, 1, 56, 2, 57, 49, 28, 3, 61, 58, 42, 50, 38, 29, 17, 4, 62, 47, 59, 36, 45, 43, 51, 22, 53, 39, 33, 30, 24, 18, 12, 5, 63, 55, 48, 27, 60, 41, 37, 16, 46, 35, 44, 21, 52, 32, 23, 11, 54, 26, 40, 15, 34, 20, 31, 10, 25, 14, 19, 9, 13, 8, 7, 6]
def globs : List (Nat × AV U) := [(0, .rarr Ty.hardware_form z6l), (3, .rarr (Ty.int .u64) zaaq), (4, .rarr (Ty.int .u8) zagb), (5, .rarr (Ty.int .u8) zaga)]
def zrw (O : List (Nat × Ct U)) (X : List (Nat × Nat)) (J : List (Nat × Amx.Spec U × List Ty)) (pre : List (Nat × List Nat)) (lits ro pk bj : List Nat) : Ctx U :=
 { P := Proofs.Tryz.prog, En := En, G := pick globs, O := pick O, X := pick X, joins := pick J, pre := fun r => (pick pre r).getD [], lits := lits, ro := ro, pk := pk, bj := bj }
theorem zx (k : IntKind) : Sp (U := U) (zba k) (fun n : Int => [.sc (.int k n)]) := fun l x r h => by
 unfold zba at h
 split at h
 · split at h
   · rename_i e; cases h; subst e; exact ⟨[_], rfl, F2.refl_ref _⟩
   · cases h
 · cases h
theorem zd0 : Sp (U := U) zfn (fun b : Bool => [.sc (.bool b)]) := fun l x r h => by
 unfold zfn at h
 split at h
 · cases h; exact ⟨[_], rfl, F2.refl_ref _⟩
 · cases h
theorem zoy : Sp (U := U) zrs (fun s : ByteArray => [.sc (.string s)]) := fun l x r h => by
 unfold zrs at h
 split at h
 · cases h; exact ⟨[_], rfl, F2.refl_ref _⟩
 · cases h
theorem zac0 : Sp (U := U) z9q (fun _ : Unit => [.sc (.slice none 0 0)]) := fun l x r h => by
 unfold z9q at h
 split at h
 · cases h; exact ⟨[_], rfl, F2.refl_ref _⟩
 · cases h
theorem zi0 (t : Ty) : Sp (U := U) (rSl t) (fun xs : List (den t) => [.lst t xs]) := fun l x r h => by
 unfold rSl at h
 split at h
 · rw [Option.map_eq_some_iff] at h; obtain ⟨⟨e⟩, _, h2⟩ := h; cases e; cases h2; exact ⟨[_], rfl, F2.refl_ref _⟩
 · cases h; exact ⟨[_], rfl, .cons (.inr ⟨rfl, _, rfl⟩) .nil⟩
 · cases h
theorem zxu : Sp (U := U) zn1 zse := fun l x r h => by
 unfold zn1 at h
 obtain ⟨x0, r0, p0, e0, f0, h⟩ := (zx .i64).step h
 obtain ⟨x1, r1, p1, e1, f1, h⟩ := (zx .i64).step h
 have e1 : r0 = p1 ++ r1 := e1
 cases h
 exact ⟨(p0 ++ p1), by rw [e0, e1]; simp only [List.append_assoc], (f0.append f1)⟩
theorem zrn : Sp (U := U) zka znl := fun l x r h => by
 unfold zka at h
 obtain ⟨x0, r0, p0, e0, f0, h⟩ := (zx .i64).step h
 obtain ⟨x1, r1, p1, e1, f1, h⟩ := (zx .i64).step h
 have e1 : r0 = p1 ++ r1 := e1
 obtain ⟨x2, r2, p2, e2, f2, h⟩ := zd0.step h
 have e2 : r1 = p2 ++ r2 := e2
 obtain ⟨x3, r3, p3, e3, f3, h⟩ := (zx .u8).step h
 have e3 : r2 = p3 ++ r3 := e3
 cases h
 exact ⟨(p0 ++ (p1 ++ (p2 ++ p3))), by rw [e0, e1, e2, e3]; simp only [List.append_assoc], (f0.append (f1.append (f2.append f3)))⟩
theorem znu : Sp (U := U) zhp zj8 := fun l x r h => by
 unfold zhp at h
 obtain ⟨x0, r0, p0, e0, f0, h⟩ := zoy.step h
 obtain ⟨x1, r1, p1, e1, f1, h⟩ := (zx .u64).step h
 have e1 : r0 = p1 ++ r1 := e1
 cases h
 exact ⟨(p0 ++ p1), by rw [e0, e1]; simp only [List.append_assoc], (f0.append f1)⟩
theorem z5v : Sp (U := U) zyd z3v := fun l x r h => by
 unfold zyd at h
 obtain ⟨x0, r0, p0, e0, f0, h⟩ := (zx .i64).step h
 obtain ⟨x1, r1, p1, e1, f1, h⟩ := zd0.step h
 have e1 : r0 = p1 ++ r1 := e1
 obtain ⟨x2, r2, p2, e2, f2, h⟩ := zd0.step h
 have e2 : r1 = p2 ++ r2 := e2
 cases h
 exact ⟨(p0 ++ (p1 ++ p2)), by rw [e0, e1, e2]; simp only [List.append_assoc], (f0.append (f1.append f2))⟩
theorem zm6 : Sp (U := U) zmn z3p := fun l x r h => by
 unfold zmn at h
 obtain ⟨x0, r0, p0, e0, f0, h⟩ := zoy.step h
 obtain ⟨x1, r1, p1, e1, f1, h⟩ := (zi0 Ty.bool).step h
 have e1 : r0 = p1 ++ r1 := e1
 cases h
 exact ⟨(p0 ++ p1), by rw [e0, e1]; simp only [List.append_assoc], (f0.append f1)⟩
theorem zsw : Sp (U := U) zqj z3u := fun l x r h => by
 unfold zqj at h
 obtain ⟨x0, r0, p0, e0, f0, h⟩ := zd0.step h
 obtain ⟨x1, r1, p1, e1, f1, h⟩ := (zx .i64).step h
 have e1 : r0 = p1 ++ r1 := e1
 obtain ⟨x2, r2, p2, e2, f2, h⟩ := (zx .i64).step h
 have e2 : r1 = p2 ++ r2 := e2
 cases h
 exact ⟨(p0 ++ (p1 ++ p2)), by rw [e0, e1, e2]; simp only [List.append_assoc], (f0.append (f1.append f2))⟩
theorem zl0 : Sp (U := U) zlb z1f := fun l x r h => by
 unfold zlb at h
 obtain ⟨x0, r0, p0, e0, f0, h⟩ := (zx .i64).step h
 obtain ⟨x1, r1, p1, e1, f1, h⟩ := (zx .i64).step h
 have e1 : r0 = p1 ++ r1 := e1
 obtain ⟨x2, r2, p2, e2, f2, h⟩ := (zx .i64).step h
 have e2 : r1 = p2 ++ r2 := e2
 cases h
 exact ⟨(p0 ++ (p1 ++ p2)), by rw [e0, e1, e2]; simp only [List.append_assoc], (f0.append (f1.append f2))⟩
theorem z0y : Sp (U := U) zwc z49 := fun l x r h => by
 unfold zwc at h
 obtain ⟨x0, r0, p0, e0, f0, h⟩ := (zx .i64).step h
 obtain ⟨x1, r1, p1, e1, f1, h⟩ := (zx .i64).step h
 have e1 : r0 = p1 ++ r1 := e1
 cases h
 exact ⟨(p0 ++ p1), by rw [e0, e1]; simp only [List.append_assoc], (f0.append f1)⟩
theorem zxw : Sp (U := U) zn4 zin := fun l x r h => by
 unfold zn4 at h
 obtain ⟨x0, r0, p0, e0, f0, h⟩ := (zx .i64).step h
 obtain ⟨x1, r1, p1, e1, f1, h⟩ := (zx .i64).step h
 have e1 : r0 = p1 ++ r1 := e1
 obtain ⟨x2, r2, p2, e2, f2, h⟩ := (zx .i64).step h
 have e2 : r1 = p2 ++ r2 := e2
 obtain ⟨x3, r3, p3, e3, f3, h⟩ := (zx .i64).step h
 have e3 : r2 = p3 ++ r3 := e3
 obtain ⟨x4, r4, p4, e4, f4, h⟩ := (zx .i64).step h
 have e4 : r3 = p4 ++ r4 := e4
 obtain ⟨x5, r5, p5, e5, f5, h⟩ := zsw.step h
 have e5 : r4 = p5 ++ r5 := e5
 obtain ⟨x6, r6, p6, e6, f6, h⟩ := zsw.step h
 have e6 : r5 = p6 ++ r6 := e6
 obtain ⟨x7, r7, p7, e7, f7, h⟩ := zl0.step h
 have e7 : r6 = p7 ++ r7 := e7
 obtain ⟨x8, r8, p8, e8, f8, h⟩ := zl0.step h
 have e8 : r7 = p8 ++ r8 := e8
 obtain ⟨x9, r9, p9, e9, f9, h⟩ := zd0.step h
 have e9 : r8 = p9 ++ r9 := e9
 obtain ⟨x10, r10, p10, e10, f10, h⟩ := zd0.step h
 have e10 : r9 = p10 ++ r10 := e10
 obtain ⟨x11, r11, p11, e11, f11, h⟩ := z0y.step h
 have e11 : r10 = p11 ++ r11 := e11
 obtain ⟨x12, r12, p12, e12, f12, h⟩ := zoy.step h
 have e12 : r11 = p12 ++ r12 := e12
 obtain ⟨x13, r13, p13, e13, f13, h⟩ := zoy.step h
 have e13 : r12 = p13 ++ r13 := e13
 obtain ⟨x14, r14, p14, e14, f14, h⟩ := (zx .i64).step h
 have e14 : r13 = p14 ++ r14 := e14
 obtain ⟨x15, r15, p15, e15, f15, h⟩ := (zx .i64).step h
 have e15 : r14 = p15 ++ r15 := e15
 obtain ⟨x16, r16, p16, e16, f16, h⟩ := (zx .i64).step h
 have e16 : r15 = p16 ++ r16 := e16
 obtain ⟨x17, r17, p17, e17, f17, h⟩ := (zx .i64).step h
 have e17 : r16 = p17 ++ r17 := e17
 cases h
 exact ⟨(p0 ++ (p1 ++ (p2 ++ (p3 ++ (p4 ++ (p5 ++ (p6 ++ (p7 ++ (p8 ++ (p9 ++ (p10 ++ (p11 ++ (p12 ++ (p13 ++ (p14 ++ (p15 ++ (p16 ++ p17))))))))))))))))), by rw [e0, e1, e2, e3, e4, e5, e6, e7, e8, e9, e10, e11, e12, e13, e14, e15, e16, e17]; simp only [List.append_assoc], (f0.append (f1.append (f2.append (f3.append (f4.append (f5.append (f6.append (f7.append (f8.append (f9.append (f10.append (f11.append (f12.append (f13.append (f14.append (f15.append (f16.append f17)))))))))))))))))⟩
theorem z7d : Sp (U := U) z0e z5a := fun l x r h => by
 unfold z0e at h
 obtain ⟨x0, r0, p0, e0, f0, h⟩ := (zx .i64).step h
 obtain ⟨x1, r1, p1, e1, f1, h⟩ := (zx .i64).step h
 have e1 : r0 = p1 ++ r1 := e1
 obtain ⟨x2, r2, p2, e2, f2, h⟩ := (zx .i64).step h
 have e2 : r1 = p2 ++ r2 := e2
 obtain ⟨x3, r3, p3, e3, f3, h⟩ := (zx .i64).step h
 have e3 : r2 = p3 ++ r3 := e3
 cases h
 exact ⟨(p0 ++ (p1 ++ (p2 ++ p3))), by rw [e0, e1, e2, e3]; simp only [List.append_assoc], (f0.append (f1.append (f2.append f3)))⟩
theorem z0z : Sp (U := U) zwd zks := fun l x r h => by
 unfold zwd at h
 obtain ⟨x0, r0, p0, e0, f0, h⟩ := zm6.step h
 obtain ⟨x1, r1, p1, e1, f1, h⟩ := (zi0 Ty.HwInstruction).step h
 have e1 : r0 = p1 ++ r1 := e1
 obtain ⟨x2, r2, p2, e2, f2, h⟩ := (zi0 Ty.HwTrap).step h
 have e2 : r1 = p2 ++ r2 := e2
 cases h
 exact ⟨(p0 ++ (p1 ++ p2)), by rw [e0, e1, e2]; simp only [List.append_assoc], (f0.append (f1.append f2))⟩
theorem z4f : Sp (U := U) zuy z1e := fun l x r h => by
 unfold zuy at h
 obtain ⟨x0, r0, p0, e0, f0, h⟩ := (zi0 Ty.str).step h
 obtain ⟨x1, r1, p1, e1, f1, h⟩ := (zx .i64).step h
 have e1 : r0 = p1 ++ r1 := e1
 obtain ⟨x2, r2, p2, e2, f2, h⟩ := (zx .i64).step h
 have e2 : r1 = p2 ++ r2 := e2
 obtain ⟨x3, r3, p3, e3, f3, h⟩ := (zx .i64).step h
 have e3 : r2 = p3 ++ r3 := e3
 obtain ⟨x4, r4, p4, e4, f4, h⟩ := (zx .i64).step h
 have e4 : r3 = p4 ++ r4 := e4
 obtain ⟨x5, r5, p5, e5, f5, h⟩ := zm6.step h
 have e5 : r4 = p5 ++ r5 := e5
 cases h
 exact ⟨(p0 ++ (p1 ++ (p2 ++ (p3 ++ (p4 ++ p5))))), by rw [e0, e1, e2, e3, e4, e5]; simp only [List.append_assoc], (f0.append (f1.append (f2.append (f3.append (f4.append f5)))))⟩
theorem z15 : Sp (U := U) zzf z8n := fun l x r h => by
 unfold zzf at h
 obtain ⟨x0, r0, p0, e0, f0, h⟩ := (zx .i64).step h
 obtain ⟨x1, r1, p1, e1, f1, h⟩ := zoy.step h
 have e1 : r0 = p1 ++ r1 := e1
 cases h
 exact ⟨(p0 ++ p1), by rw [e0, e1]; simp only [List.append_assoc], (f0.append f1)⟩
theorem z16 : Sp (U := U) zs5 zzw := fun l x r h => by
 unfold zs5 at h
 obtain ⟨x0, r0, p0, e0, f0, h⟩ := zoy.step h
 obtain ⟨x1, r1, p1, e1, f1, h⟩ := (zx .i64).step h
 have e1 : r0 = p1 ++ r1 := e1
 obtain ⟨x2, r2, p2, e2, f2, h⟩ := zl0.step h
 have e2 : r1 = p2 ++ r2 := e2
 obtain ⟨x3, r3, p3, e3, f3, h⟩ := z15.step h
 have e3 : r2 = p3 ++ r3 := e3
 obtain ⟨x4, r4, p4, e4, f4, h⟩ := zoy.step h
 have e4 : r3 = p4 ++ r4 := e4
 obtain ⟨x5, r5, p5, e5, f5, h⟩ := (zx .i64).step h
 have e5 : r4 = p5 ++ r5 := e5
 obtain ⟨x6, r6, p6, e6, f6, h⟩ := (zx .i64).step h
 have e6 : r5 = p6 ++ r6 := e6
 cases h
 exact ⟨(p0 ++ (p1 ++ (p2 ++ (p3 ++ (p4 ++ (p5 ++ p6)))))), by rw [e0, e1, e2, e3, e4, e5, e6]; simp only [List.append_assoc], (f0.append (f1.append (f2.append (f3.append (f4.append (f5.append f6))))))⟩
theorem zxv : Sp (U := U) zn3 zsg := fun l x r h => by
 unfold zn3 at h
 obtain ⟨x0, r0, p0, e0, f0, h⟩ := (zx .i64).step h
 obtain ⟨x1, r1, p1, e1, f1, h⟩ := (zi0 (Ty.int .i64)).step h
 have e1 : r0 = p1 ++ r1 := e1
 cases h
 exact ⟨(p0 ++ p1), by rw [e0, e1]; simp only [List.append_assoc], (f0.append f1)⟩
theorem z17 : Sp (U := U) zs6 zzx := fun l x r h => by
 unfold zs6 at h
 obtain ⟨x0, r0, p0, e0, f0, h⟩ := (zx .i64).step h
 obtain ⟨x1, r1, p1, e1, f1, h⟩ := (zx .i64).step h
 have e1 : r0 = p1 ++ r1 := e1
 obtain ⟨x2, r2, p2, e2, f2, h⟩ := (zx .i64).step h
 have e2 : r1 = p2 ++ r2 := e2
 obtain ⟨x3, r3, p3, e3, f3, h⟩ := (zx .i64).step h
 have e3 : r2 = p3 ++ r3 := e3
 cases h
 exact ⟨(p0 ++ (p1 ++ (p2 ++ p3))), by rw [e0, e1, e2, e3]; simp only [List.append_assoc], (f0.append (f1.append (f2.append f3)))⟩
theorem zug : Sp (U := U) zpw zzv := fun l x r h => by
 unfold zpw at h
 obtain ⟨x0, r0, p0, e0, f0, h⟩ := (zi0 Ty.MiOperand).step h
 obtain ⟨x1, r1, p1, e1, f1, h⟩ := (zi0 Ty.MiInstruction).step h
 have e1 : r0 = p1 ++ r1 := e1
 obtain ⟨x2, r2, p2, e2, f2, h⟩ := (zi0 Ty.MiMonitor).step h
 have e2 : r1 = p2 ++ r2 := e2
 cases h
 exact ⟨(p0 ++ (p1 ++ p2)), by rw [e0, e1, e2]; simp only [List.append_assoc], (f0.append (f1.append f2))⟩
theorem z4e : Sp (U := U) zux z1d := fun l x r h => by
 unfold zux at h
 obtain ⟨x0, r0, p0, e0, f0, h⟩ := (zi0 Ty.str).step h
 obtain ⟨x1, r1, p1, e1, f1, h⟩ := (zx .i64).step h
 have e1 : r0 = p1 ++ r1 := e1
 obtain ⟨x2, r2, p2, e2, f2, h⟩ := (zx .i64).step h
 have e2 : r1 = p2 ++ r2 := e2
 obtain ⟨x3, r3, p3, e3, f3, h⟩ := (zx .i64).step h
 have e3 : r2 = p3 ++ r3 := e3
 cases h
 exact ⟨(p0 ++ (p1 ++ (p2 ++ p3))), by rw [e0, e1, e2, e3]; simp only [List.append_assoc], (f0.append (f1.append (f2.append f3)))⟩
theorem zy2 : Sp (U := U) zs7 z3t := fun l x r h => by
 unfold zs7 at h
 obtain ⟨x0, r0, p0, e0, f0, h⟩ := (zi0 Ty.Number).step h
 obtain ⟨x1, r1, p1, e1, f1, h⟩ := (zx .i64).step h
 have e1 : r0 = p1 ++ r1 := e1
 obtain ⟨x2, r2, p2, e2, f2, h⟩ := zm6.step h
 have e2 : r1 = p2 ++ r2 := e2
 obtain ⟨x3, r3, p3, e3, f3, h⟩ := (zx .i64).step h
 have e3 : r2 = p3 ++ r3 := e3
 obtain ⟨x4, r4, p4, e4, f4, h⟩ := (zi0 (Ty.int .i64)).step h
 have e4 : r3 = p4 ++ r4 := e4
 obtain ⟨x5, r5, p5, e5, f5, h⟩ := (zi0 Ty.str).step h
 have e5 : r4 = p5 ++ r5 := e5
 obtain ⟨x6, r6, p6, e6, f6, h⟩ := (zx .i64).step h
 have e6 : r5 = p6 ++ r6 := e6
 obtain ⟨x7, r7, p7, e7, f7, h⟩ := (zx .i64).step h
 have e7 : r6 = p7 ++ r7 := e7
 obtain ⟨x8, r8, p8, e8, f8, h⟩ := (zx .i64).step h
 have e8 : r7 = p8 ++ r8 := e8
 obtain ⟨x9, r9, p9, e9, f9, h⟩ := (zx .i64).step h
 have e9 : r8 = p9 ++ r9 := e9
 cases h
 exact ⟨(p0 ++ (p1 ++ (p2 ++ (p3 ++ (p4 ++ (p5 ++ (p6 ++ (p7 ++ (p8 ++ p9))))))))), by rw [e0, e1, e2, e3, e4, e5, e6, e7, e8, e9]; simp only [List.append_assoc], (f0.append (f1.append (f2.append (f3.append (f4.append (f5.append (f6.append (f7.append (f8.append f9)))))))))⟩
theorem zy1 : Sp (U := U) zs4 z3r := fun l x r h => by
 unfold zs4 at h
 obtain ⟨x0, r0, p0, e0, f0, h⟩ := zm6.step h
 obtain ⟨x1, r1, p1, e1, f1, h⟩ := (zx .i64).step h
 have e1 : r0 = p1 ++ r1 := e1
 obtain ⟨x2, r2, p2, e2, f2, h⟩ := (zi0 (Ty.int .i64)).step h
 have e2 : r1 = p2 ++ r2 := e2
 obtain ⟨x3, r3, p3, e3, f3, h⟩ := (zi0 Ty.str).step h
 have e3 : r2 = p3 ++ r3 := e3
 obtain ⟨x4, r4, p4, e4, f4, h⟩ := (zx .i64).step h
 have e4 : r3 = p4 ++ r4 := e4
 obtain ⟨x5, r5, p5, e5, f5, h⟩ := (zx .i64).step h
 have e5 : r4 = p5 ++ r5 := e5
 obtain ⟨x6, r6, p6, e6, f6, h⟩ := (zx .i64).step h
 have e6 : r5 = p6 ++ r6 := e6
 cases h
 exact ⟨(p0 ++ (p1 ++ (p2 ++ (p3 ++ (p4 ++ (p5 ++ p6)))))), by rw [e0, e1, e2, e3, e4, e5, e6]; simp only [List.append_assoc], (f0.append (f1.append (f2.append (f3.append (f4.append (f5.append f6))))))⟩
theorem z5u : Sp (U := U) zyc z3s := fun l x r h => by
 unfold zyc at h
 obtain ⟨x0, r0, p0, e0, f0, h⟩ := (zx .i64).step h
 obtain ⟨x1, r1, p1, e1, f1, h⟩ := (zx .i64).step h
 have e1 : r0 = p1 ++ r1 := e1
 cases h
 exact ⟨(p0 ++ p1), by rw [e0, e1]; simp only [List.append_assoc], (f0.append f1)⟩
theorem zy3 : Sp (U := U) zs8 z3w := fun l x r h => by
 unfold zs8 at h
 obtain ⟨x0, r0, p0, e0, f0, h⟩ := (zx .i64).step h
 obtain ⟨x1, r1, p1, e1, f1, h⟩ := (zx .i64).step h
 have e1 : r0 = p1 ++ r1 := e1
 cases h
 exact ⟨(p0 ++ p1), by rw [e0, e1]; simp only [List.append_assoc], (f0.append f1)⟩
theorem z5t : Sp (U := U) zyb z3q := fun l x r h => by
 unfold zyb at h
 obtain ⟨x0, r0, p0, e0, f0, h⟩ := (zx .i64).step h
 obtain ⟨x1, r1, p1, e1, f1, h⟩ := zy3.step h
 have e1 : r0 = p1 ++ r1 := e1
 obtain ⟨x2, r2, p2, e2, f2, h⟩ := (zx .i64).step h
 have e2 : r1 = p2 ++ r2 := e2
 cases h
 exact ⟨(p0 ++ (p1 ++ p2)), by rw [e0, e1, e2]; simp only [List.append_assoc], (f0.append (f1.append f2))⟩
theorem zy0 : Sp (U := U) zpj zt3 := fun l x r h => by
 unfold zpj at h
 obtain ⟨x0, r0, p0, e0, f0, h⟩ := zd0.step h
 obtain ⟨x1, r1, p1, e1, f1, h⟩ := zd0.step h
 have e1 : r0 = p1 ++ r1 := e1
 obtain ⟨x2, r2, p2, e2, f2, h⟩ := zd0.step h
 have e2 : r1 = p2 ++ r2 := e2
 obtain ⟨x3, r3, p3, e3, f3, h⟩ := zd0.step h
 have e3 : r2 = p3 ++ r3 := e3
 obtain ⟨x4, r4, p4, e4, f4, h⟩ := zd0.step h
 have e4 : r3 = p4 ++ r4 := e4
 obtain ⟨x5, r5, p5, e5, f5, h⟩ := zd0.step h
 have e5 : r4 = p5 ++ r5 := e5
 obtain ⟨x6, r6, p6, e6, f6, h⟩ := zd0.step h
 have e6 : r5 = p6 ++ r6 := e6
 obtain ⟨x7, r7, p7, e7, f7, h⟩ := zd0.step h
 have e7 : r6 = p7 ++ r7 := e7
 obtain ⟨x8, r8, p8, e8, f8, h⟩ := zd0.step h
 have e8 : r7 = p8 ++ r8 := e8
 obtain ⟨x9, r9, p9, e9, f9, h⟩ := zd0.step h
 have e9 : r8 = p9 ++ r9 := e9
 obtain ⟨x10, r10, p10, e10, f10, h⟩ := zd0.step h
 have e10 : r9 = p10 ++ r10 := e10
 obtain ⟨x11, r11, p11, e11, f11, h⟩ := zd0.step h
 have e11 : r10 = p11 ++ r11 := e11
 obtain ⟨x12, r12, p12, e12, f12, h⟩ := zd0.step h
 have e12 : r11 = p12 ++ r12 := e12
 obtain ⟨x13, r13, p13, e13, f13, h⟩ := zd0.step h
 have e13 : r12 = p13 ++ r13 := e13
 obtain ⟨x14, r14, p14, e14, f14, h⟩ := (zx .i64).step h
 have e14 : r13 = p14 ++ r14 := e14
 obtain ⟨x15, r15, p15, e15, f15, h⟩ := (zx .i64).step h
 have e15 : r14 = p15 ++ r15 := e15
 cases h
 exact ⟨(p0 ++ (p1 ++ (p2 ++ (p3 ++ (p4 ++ (p5 ++ (p6 ++ (p7 ++ (p8 ++ (p9 ++ (p10 ++ (p11 ++ (p12 ++ (p13 ++ (p14 ++ p15))))))))))))))), by rw [e0, e1, e2, e3, e4, e5, e6, e7, e8, e9, e10, e11, e12, e13, e14, e15]; simp only [List.append_assoc], (f0.append (f1.append (f2.append (f3.append (f4.append (f5.append (f6.append (f7.append (f8.append (f9.append (f10.append (f11.append (f12.append (f13.append (f14.append f15)))))))))))))))⟩
theorem zt7 : Sp (U := U) zly zpp := fun l x r h => by
 unfold zly at h
 obtain ⟨x0, r0, p0, e0, f0, h⟩ := zy2.step h
 obtain ⟨x1, r1, p1, e1, f1, h⟩ := z0z.step h
 have e1 : r0 = p1 ++ r1 := e1
 obtain ⟨x2, r2, p2, e2, f2, h⟩ := (zx .i64).step h
 have e2 : r1 = p2 ++ r2 := e2
 cases h
 exact ⟨(p0 ++ (p1 ++ p2)), by rw [e0, e1, e2]; simp only [List.append_assoc], (f0.append (f1.append f2))⟩
theorem zsv : Sp (U := U) zk6 zpf := fun l x r h => by
 unfold zk6 at h
 obtain ⟨x0, r0, p0, e0, f0, h⟩ := zug.step h
 obtain ⟨x1, r1, p1, e1, f1, h⟩ := zy1.step h
 have e1 : r0 = p1 ++ r1 := e1
 obtain ⟨x2, r2, p2, e2, f2, h⟩ := (zi0 (Ty.int .i64)).step h
 have e2 : r1 = p2 ++ r2 := e2
 obtain ⟨x3, r3, p3, e3, f3, h⟩ := (zx .i64).step h
 have e3 : r2 = p3 ++ r3 := e3
 cases h
 exact ⟨(p0 ++ (p1 ++ (p2 ++ p3))), by rw [e0, e1, e2, e3]; simp only [List.append_assoc], (f0.append (f1.append (f2.append f3)))⟩
theorem zty : Sp (U := U) zop zxi := fun l x r h => by
 unfold zop at h
 obtain ⟨x0, r0, p0, e0, f0, h⟩ := zd0.step h
 obtain ⟨x1, r1, p1, e1, f1, h⟩ := (zi0 (Ty.int .i64)).step h
 have e1 : r0 = p1 ++ r1 := e1
 cases h
 exact ⟨(p0 ++ p1), by rw [e0, e1]; simp only [List.append_assoc], (f0.append f1)⟩
theorem zxt : Sp (U := U) zny zsd := fun l x r h => by
 unfold zny at h
 obtain ⟨x0, r0, p0, e0, f0, h⟩ := (zx .i64).step h
 obtain ⟨x1, r1, p1, e1, f1, h⟩ := zl0.step h
 have e1 : r0 = p1 ++ r1 := e1
 obtain ⟨x2, r2, p2, e2, f2, h⟩ := zd0.step h
 have e2 : r1 = p2 ++ r2 := e2
 cases h
 exact ⟨(p0 ++ (p1 ++ p2)), by rw [e0, e1, e2]; simp only [List.append_assoc], (f0.append (f1.append f2))⟩
theorem zwp : Sp (U := U) zm8 zrc := fun l x r h => by
 unfold zm8 at h
 obtain ⟨x0, r0, p0, e0, f0, h⟩ := zty.step h
 obtain ⟨x1, r1, p1, e1, f1, h⟩ := (zi0 (Ty.int .i64)).step h
 have e1 : r0 = p1 ++ r1 := e1
 cases h
 exact ⟨(p0 ++ p1), by rw [e0, e1]; simp only [List.append_assoc], (f0.append f1)⟩
theorem zuh : Sp (U := U) zr6 z5b := fun l x r h => by
 unfold zr6 at h
 obtain ⟨x0, r0, p0, e0, f0, h⟩ := (zx .u64).step h
 obtain ⟨x1, r1, p1, e1, f1, h⟩ := (zx .u64).step h
 have e1 : r0 = p1 ++ r1 := e1
 obtain ⟨x2, r2, p2, e2, f2, h⟩ := (zx .u64).step h
 have e2 : r1 = p2 ++ r2 := e2
 obtain ⟨x3, r3, p3, e3, f3, h⟩ := (zx .u64).step h
 have e3 : r2 = p3 ++ r3 := e3
 cases h
 exact ⟨(p0 ++ (p1 ++ (p2 ++ p3))), by rw [e0, e1, e2, e3]; simp only [List.append_assoc], (f0.append (f1.append (f2.append f3)))⟩
theorem zt6 : Sp (U := U) zlx zpo := fun l x r h => by
 unfold zlx at h
 obtain ⟨x0, r0, p0, e0, f0, h⟩ := zd0.step h
 obtain ⟨x1, r1, p1, e1, f1, h⟩ := zuh.step h
 have e1 : r0 = p1 ++ r1 := e1
 obtain ⟨x2, r2, p2, e2, f2, h⟩ := zuh.step h
 have e2 : r1 = p2 ++ r2 := e2
 cases h
 exact ⟨(p0 ++ (p1 ++ p2)), by rw [e0, e1, e2]; simp only [List.append_assoc], (f0.append (f1.append f2))⟩
theorem sp : ∀ t : Ty, Sp (U := U) (rd t) (enc t)
 | .int k => zx k
 | .bool => zd0
 | .str => zoy
 | .nil => zac0
 | .sl t => zi0 t
 | .st 0 => zxu
 | .st 1 => zrn
 | .st 2 => znu
 | .st 3 => z5v
 | .st 4 => zm6
 | .st 5 => zsw
 | .st 6 => zl0
 | .st 7 => z0y
 | .st 8 => zxw
 | .st 9 => z7d
 | .st 10 => z0z
 | .st 11 => z4f
 | .st 12 => z15
 | .st 13 => z16
 | .st 14 => zxv
 | .st 15 => z17
 | .st 16 => zug
 | .st 17 => z4e
 | .st 18 => zy2
 | .st 19 => zy1
 | .st 20 => z5u
 | .st 21 => zy3
 | .st 22 => z5t
 | .st 23 => zy0
 | .st 24 => zt7
 | .st 25 => zsv
 | .st 26 => zty
 | .st 27 => zxt
 | .st 28 => zwp
 | .st 29 => zuh
 | .st 30 => zt6
 | .st (_ + 31) => fun l x r h => by cases h
theorem zaai : ∀ (t : Ty) (x : den t), (enc t x).length = szT t
 | .int _, _ => rfl
 | .bool, _ => rfl
 | .str, _ => rfl
 | .nil, _ => rfl
 | .sl _, _ => rfl
 | .st 0, _ => rfl
 | .st 1, _ => rfl
 | .st 2, _ => rfl
 | .st 3, _ => rfl
 | .st 4, _ => rfl
 | .st 5, _ => rfl
 | .st 6, _ => rfl
 | .st 7, _ => rfl
 | .st 8, _ => rfl
 | .st 9, _ => rfl
 | .st 10, _ => rfl
 | .st 11, _ => rfl
 | .st 12, _ => rfl
 | .st 13, _ => rfl
 | .st 14, _ => rfl
 | .st 15, _ => rfl
 | .st 16, _ => rfl
 | .st 17, _ => rfl
 | .st 18, _ => rfl
 | .st 19, _ => rfl
 | .st 20, _ => rfl
 | .st 21, _ => rfl
 | .st 22, _ => rfl
 | .st 23, _ => rfl
 | .st 24, _ => rfl
 | .st 25, _ => rfl
 | .st 26, _ => rfl
 | .st 27, _ => rfl
 | .st 28, _ => rfl
 | .st 29, _ => rfl
 | .st 30, _ => rfl
 | .st (_ + 31), _ => rfl
theorem zadc : ∀ t : Ty, 0 < szT t
 | .int _ => Nat.one_pos
 | .bool => Nat.one_pos
 | .str => Nat.one_pos
 | .nil => Nat.one_pos
 | .sl _ => Nat.one_pos
 | .st 0 => (by decide : 0 < 2)
 | .st 1 => (by decide : 0 < 4)
 | .st 2 => (by decide : 0 < 2)
 | .st 3 => (by decide : 0 < 3)
 | .st 4 => (by decide : 0 < 2)
 | .st 5 => (by decide : 0 < 3)
 | .st 6 => (by decide : 0 < 3)
 | .st 7 => (by decide : 0 < 2)
 | .st 8 => (by decide : 0 < 27)
 | .st 9 => (by decide : 0 < 4)
 | .st 10 => (by decide : 0 < 4)
 | .st 11 => (by decide : 0 < 7)
 | .st 12 => (by decide : 0 < 2)
 | .st 13 => (by decide : 0 < 10)
 | .st 14 => (by decide : 0 < 2)
 | .st 15 => (by decide : 0 < 4)
 | .st 16 => (by decide : 0 < 3)
 | .st 17 => (by decide : 0 < 4)
 | .st 18 => (by decide : 0 < 11)
 | .st 19 => (by decide : 0 < 8)
 | .st 20 => (by decide : 0 < 2)
 | .st 21 => (by decide : 0 < 2)
 | .st 22 => (by decide : 0 < 4)
 | .st 23 => (by decide : 0 < 16)
 | .st 24 => (by decide : 0 < 16)
 | .st 25 => (by decide : 0 < 13)
 | .st 26 => (by decide : 0 < 2)
 | .st 27 => (by decide : 0 < 5)
 | .st 28 => (by decide : 0 < 3)
 | .st 29 => (by decide : 0 < 4)
 | .st 30 => (by decide : 0 < 9)
 | .st (_ + 31) => Nat.one_pos
theorem zagc : ∀ (t : Ty) (x : den t), (enc t x).all (fzc (U := U)) = true
 | .int _, _ => rfl
 | .bool, _ => rfl
 | .str, _ => rfl
 | .nil, _ => rfl
 | .sl _, _ => rfl
 | .st 0, _ => rfl
 | .st 1, _ => rfl
 | .st 2, _ => rfl
 | .st 3, _ => rfl
 | .st 4, _ => rfl
 | .st 5, _ => rfl
 | .st 6, _ => rfl
 | .st 7, _ => rfl
 | .st 8, _ => rfl
 | .st 9, _ => rfl
 | .st 10, _ => rfl
 | .st 11, _ => rfl
 | .st 12, _ => rfl
 | .st 13, _ => rfl
 | .st 14, _ => rfl
 | .st 15, _ => rfl
 | .st 16, _ => rfl
 | .st 17, _ => rfl
 | .st 18, _ => rfl
 | .st 19, _ => rfl
 | .st 20, _ => rfl
 | .st 21, _ => rfl
 | .st 22, _ => rfl
 | .st 23, _ => rfl
 | .st 24, _ => rfl
 | .st 25, _ => rfl
 | .st 26, _ => rfl
 | .st 27, _ => rfl
 | .st 28, _ => rfl
 | .st 29, _ => rfl
 | .st 30, _ => rfl
 | .st (_ + 31), _ => rfl
theorem zabx : ∀ t : Ty, zaas t = true → ∀ x : den t, (enc t x).all (z7e (U := U)) = true
 | .int _, _, _ => rfl
 | .bool, _, _ => rfl
 | .str, _, _ => rfl
 | .nil, _, _ => rfl
 | .sl _, h, _ => by cases h
 | .st 0, _, _ => rfl
 | .st 1, _, _ => rfl
 | .st 2, _, _ => rfl
 | .st 3, _, _ => rfl
 | .st 4, h, _ => by cases h
 | .st 5, _, _ => rfl
 | .st 6, _, _ => rfl
 | .st 7, _, _ => rfl
 | .st 8, _, _ => rfl
 | .st 9, _, _ => rfl
 | .st 10, h, _ => by cases h
 | .st 11, h, _ => by cases h
 | .st 12, _, _ => rfl
 | .st 13, _, _ => rfl
 | .st 14, h, _ => by cases h
 | .st 15, _, _ => rfl
 | .st 16, h, _ => by cases h
 | .st 17, h, _ => by cases h
 | .st 18, h, _ => by cases h
 | .st 19, h, _ => by cases h
 | .st 20, _, _ => rfl
 | .st 21, _, _ => rfl
 | .st 22, _, _ => rfl
 | .st 23, _, _ => rfl
 | .st 24, h, _ => by cases h
 | .st 25, h, _ => by cases h
 | .st 26, h, _ => by cases h
 | .st 27, _, _ => rfl
 | .st 28, h, _ => by cases h
 | .st 29, _, _ => rfl
 | .st 30, _, _ => rfl
 | .st (_ + 31), _, _ => rfl
theorem zadg : ∀ t : Ty, aggT t = false → szT t = 1
 | .int _, _ => rfl
 | .bool, _ => rfl
 | .str, _ => rfl
 | .nil, _ => rfl
 | .sl _, _ => rfl
 | .st _, h => by cases h
theorem zls : ELaws En where
 sz := zaai
 pos := zadc
 fz := fun t x c hc => z90 (z5g (zagc t x) hc)
 one := zadg
 reify := fun t cs x h => by
  have h' : reify t cs = some x := h; unfold reify at h'; rw [Option.bind_eq_some_iff] at h'; obtain ⟨⟨y, r⟩, h1, h2⟩ := h'; cases r with
  | cons => cases h2
  | nil =>
   cases h2; obtain ⟨p, e, f⟩ := sp t cs _ _ h1; rw [List.append_nil] at e; subst e; exact ⟨f.length.trans (zaai t _), fun j c c' g1 g2 => f.get j c c' g1 g2⟩
 flat := fun t ht x c hc => z4i (z5g (zabx t ht x) hc)
 slAgg := fun _ => rfl
 slEnc := fun _ _ => rfl
 ofTo := fun _ _ => rfl
 u8sz := rfl
 u8 := fun x => ⟨x, rfl⟩
 toInts := fun xs i x n h1 h2 => by cases h2; exact h1
 toIntsLen := fun _ => rfl
 ofInts := fun l i n h => ⟨n, h, rfl⟩
 ofIntsLen := fun _ => rfl
theorem zwl {O : List (Nat × Ct U)} {X : List (Nat × Nat)} {J : List (Nat × Amx.Spec U × List Ty)} {pre : List (Nat × List Nat)} {lits ro pk bj : List Nat} : CLaws (zrw O X J pre lits ro pk bj) :=
 z97 zls (l := zaao) rfl (by kernel_rfl)
def ctv (ps : List (Md U)) (res outs : List Ty) (fr : List Nat) (ts : List Ty) (f : Fnc U ts (PT U (res ++ outs))) : Ct U := { params := ps, results := res, outs := outs, fresh := fr, fn := app U ts f }
def cvv (res ts : List Ty) (f : Fnc U ts (PT U (res ++ []))) : Ct U := ctv (ts.map .val) res [] [] ts f
def K0 : Ctx U := zrw [] [] [] [] [] [] [] []
@[reducible] def Kq : Type := Kp K0
structure Cf where
 X : List (Nat × Nat) := []
 J : List (Nat × Amx.Spec U × List Ty) := []
 pre : List (Nat × List Nat) := []
 lits : List Nat := []
 ro : List Nat := []
 pk : List Nat := []
 bj : List Nat := []
def cxo (l : List Kq) (c : Cf) : Ctx U := zrw (Osk l) c.X c.J c.pre c.lits c.ro c.pk c.bj
theorem go (l : List Kq) (c : Cf) {f : FuncId} {fn : Func} {ps : List (Md U)} {res outs : List Ty} {fr : List Nat} {ts : List Ty} {F : Fnc U ts (PT U (res ++ outs))} (L : List (Nat × Cut U (PT U ((ctv ps res outs fr ts F).results ++ (ctv ps res outs fr ts F).outs)))) (hf : Proofs.Tryz.prog.funcs[f]? = some fn) (hn : ((fn.name == "runtime.NumGoroutine") || !fn.body.isSome) = false := by kernel_rfl)
 (hok : zzu (cxo l c) (ctv ps res outs fr ts F) = fun _ => true := by kernel_rfl) (hr : (cur ts (z9e (cxo l c) fn (ctv ps res outs fr ts F) (pick L)) : Fnc U ts (PT U (res ++ outs))) = F := by kernel_rfl) (hL : Ls (cxo l c) fn (ctv ps res outs fr ts F) (pick L) L := by exact trivial) (hX : ∀ p ∈ c.X, zv4 Proofs.Tryz.prog p := by exact zdg) : zhm K0 f (ctv ps res outs fr ts F) := by
 rw [Bool.or_eq_false_iff] at hn
 exact zhm.ctx (C := cxo l c) (C' := K0) rfl rfl rfl (z78 (C := cxo l c) zwl (zafm (C := cxo l c) (C0 := K0) (l := l) rfl rfl rfl rfl) (zt9 (l := c.X) rfl hX) hf hn.1 (by simpa using hn.2) (zadn rfl hL) (fun y => congrFun hok y) (zab2 hr))
theorem zaej : zv4 Proofs.Tryz.prog (331, 2) := zaaw Proofs.Tryz.func331 (by kernel_rfl) (by kernel_rfl) (by kernel_rfl) (by kernel_rfl)
theorem zaad : zv4 Proofs.Tryz.prog (347, 0) := z64 Proofs.Tryz.func347 (by kernel_rfl) (by kernel_rfl) (by kernel_rfl) (by kernel_rfl)
theorem zaei : zv4 Proofs.Tryz.prog (355, 1) := z63 Proofs.Tryz.func355 (by kernel_rfl) (by kernel_rfl) (by kernel_rfl) (by kernel_rfl)
end
end Go.Proofs.YtppbpnknfigboaaGreatDoor.M
