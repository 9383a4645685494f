/- The program's types, and their cells. -/
import Derived.Test.YtnpfkhdbmlhfhaaGreatDoorA4
import Derived.Test.YtnpfkhdbmlhfhaaGreatDoorShelf
import Derived.KernelRfl
namespace Go.Proofs.YtnpfkhdbmlhfhaaGreatDoor.M
open Go Go.Amx
set_option linter.unusedVariables false
set_option maxRecDepth 100000
noncomputable section
structure zR where
 fields : Int
 types : Int
structure zY where
 x : Int
 y : Int
 signed : Bool
 code : Int
structure zW where
 msg : ByteArray
 addr : Int
structure zI where
 Registers : Int
 yB : Bool
 zZ : Bool
structure Storage where
 Bytes : ByteArray
 Tags : List Bool
structure zL where
 Based : Bool
 Pointer : Int
 Offset : Int
structure DataType where
 Kind : Int
 Length : Int
 Scale : Int
structure Number where
 N : Int
 Scale : Int
structure zC where
 Op : Int
 R : Int
 A : Int
 B : Int
 zM : Int
 Place : zL
 From : zL
 zD : DataType
 Second : DataType
 Half : Bool
 zK : Bool
 Number : Number
 Text : ByteArray
 Other : ByteArray
 Mask : Int
 Target : Int
 Pointer : Int
 Source : Int
structure zQ where
 From : Int
 To : Int
 Exception : Int
 Handler : Int
structure zF where
 Storage : Storage
 zB : List zC
 zP : List zQ
structure zA where
 Register : Int
 zD : DataType
 Offset : Int
structure zV where
 Facts : List (List zA)
 Index : List Int
structure Value where
 N : Int
 S : ByteArray
structure zH where
 Name : ByteArray
 Kind : Int
 zD : DataType
 Value : Value
 Base : ByteArray
 Offset : Int
 Target : Int
structure zO where
 Op : Int
 Args : List Int
structure zT where
 From : Int
 To : Int
 Exception : Int
 Handler : Int
structure zJ where
 zS : List zH
 zB : List zO
 yA : List zT
structure zX where
 Starts : List Int
structure Translation where
 Model : zI
 Code : zF
 Map : zX
structure Optimization where
 Model : zI
 Before : zF
 After : zF
 Proof : zV
structure zG where
 zJ : zJ
 layout : List Int
 code : List zC
structure zU where
 Part : Int
 Index : Int
structure zN where
 R : Bool
 A : Bool
 B : Bool
 Place : Bool
 From : Bool
 Half : Bool
 Number : Bool
 zM : Bool
 Mask : Bool
 Target : Bool
 Text : Bool
 Other : Bool
 Pointer : Bool
 Source : Bool
 zD : Int
 Second : Int
structure Address where
 yC : Int
 Offset : Int
structure Pointer where
 Kind : Int
 Address : Address
 Authority : Int
inductive Ty where
 | int (k : IntKind)
 | bool
 | str
 | nil
 | sl (t : Ty)
 | st (n : Nat)
@[reducible] def zz8 : Nat → Type
 | 0 => zR
 | 1 => zY
 | 2 => zW
 | 3 => zI
 | 4 => Storage
 | 5 => zL
 | 6 => DataType
 | 7 => Number
 | 8 => zC
 | 9 => zQ
 | 10 => zF
 | 11 => zA
 | 12 => zV
 | 13 => Value
 | 14 => zH
 | 15 => zO
 | 16 => zT
 | 17 => zJ
 | 18 => zX
 | 19 => Translation
 | 20 => Optimization
 | 21 => zG
 | 22 => zU
 | 23 => zN
 | 24 => Address
 | 25 => Pointer
 | _ + 26 => Unit
@[reducible] def den : Ty → Type
 | .int _ => Int
 | .bool => Bool
 | .str => ByteArray
 | .nil => Unit
 | .sl t => List (den t)
 | .st n => zz8 n
def eqTy : (a b : Ty) → Option (PLift (a = b))
 | .int j, .int k => if h : j = k then some ⟨by rw [h]⟩ else none
 | .bool, .bool => some ⟨rfl⟩
 | .str, .str => some ⟨rfl⟩
 | .nil, .nil => some ⟨rfl⟩
 | .sl a, .sl b => match eqTy a b with
  | some ⟨h⟩ => some ⟨by rw [h]⟩
  | none => none
 | .st i, .st j => if h : i = j then some ⟨by rw [h]⟩ else none
 | _, _ => none
@[reducible] def U : Uni := { Ty := Ty, den := den, eqTy := eqTy }
@[reducible] def T6 : Ty := Ty.int .i64
def w6 (n : Int) : Int := IntKind.wrap .i64 n
@[reducible] def Ty.zR : Ty := .st 0
@[reducible] def Ty.zY : Ty := .st 1
@[reducible] def Ty.zW : Ty := .st 2
@[reducible] def Ty.zI : Ty := .st 3
@[reducible] def Ty.Storage : Ty := .st 4
@[reducible] def Ty.zL : Ty := .st 5
@[reducible] def Ty.DataType : Ty := .st 6
@[reducible] def Ty.Number : Ty := .st 7
@[reducible] def Ty.zC : Ty := .st 8
@[reducible] def Ty.zQ : Ty := .st 9
@[reducible] def Ty.zF : Ty := .st 10
@[reducible] def Ty.zA : Ty := .st 11
@[reducible] def Ty.zV : Ty := .st 12
@[reducible] def Ty.Value : Ty := .st 13
@[reducible] def Ty.zH : Ty := .st 14
@[reducible] def Ty.zO : Ty := .st 15
@[reducible] def Ty.zT : Ty := .st 16
@[reducible] def Ty.zJ : Ty := .st 17
@[reducible] def Ty.zX : Ty := .st 18
@[reducible] def Ty.Translation : Ty := .st 19
@[reducible] def Ty.Optimization : Ty := .st 20
@[reducible] def Ty.zG : Ty := .st 21
@[reducible] def Ty.zU : Ty := .st 22
@[reducible] def Ty.zN : Ty := .st 23
@[reducible] def Ty.Address : Ty := .st 24
@[reducible] def Ty.Pointer : Ty := .st 25
def zcs (k : IntKind) : List (AV U) → Option (Int × List (AV U))
 | .sc (.int k' n) :: l => if k = k' then some (n, l) else none
 | _ => none
def zft : List (AV U) → Option (Bool × List (AV U))
 | .sc (.bool b) :: l => some (b, l)
 | _ => none
def zpe : List (AV U) → Option (ByteArray × List (AV U))
 | .sc (.string s) :: l => some (s, l)
 | _ => none
def z3m : List (AV U) → Option (Unit × List (AV U))
 | .sc (.slice none 0 0) :: l => some ((), l)
 | _ => none
def rSl (t : Ty) : List (AV U) → Option (List (den t) × List (AV U))
 | .lst t' xs :: l => (U.eqTy t' t).map fun e => (zre e xs, l)
 | .sc (.slice none 0 0) :: l => some ([], l)
 | _ => none
def zmh (l : List (AV U)) : Option (zR × List (AV U)) := (zcs .i64 l).bind fun x0 => (zcs .i64 x0.2).bind fun x1 => some (⟨x0.1, x1.1⟩, x1.2)
def zjc (l : List (AV U)) : Option (zY × List (AV U)) := (zcs .i64 l).bind fun x0 => (zcs .i64 x0.2).bind fun x1 => (zft x1.2).bind fun x2 => (zcs .u8 x2.2).bind fun x3 => some (⟨x0.1, x1.1, x2.1, x3.1⟩, x3.2)
def zgq (l : List (AV U)) : Option (zW × List (AV U)) := (zpe l).bind fun x0 => (zcs .u64 x0.2).bind fun x1 => some (⟨x0.1, x1.1⟩, x1.2)
def zn7 (l : List (AV U)) : Option (zI × List (AV U)) := (zcs .i64 l).bind fun x0 => (zft x0.2).bind fun x1 => (zft x1.2).bind fun x2 => some (⟨x0.1, x1.1, x2.1⟩, x2.2)
def zqq (l : List (AV U)) : Option (Storage × List (AV U)) := (zpe l).bind fun x0 => (rSl Ty.bool x0.2).bind fun x1 => some (⟨x0.1, x1.1⟩, x1.2)
def zn6 (l : List (AV U)) : Option (zL × List (AV U)) := (zft l).bind fun x0 => (zcs .i64 x0.2).bind fun x1 => (zcs .i64 x1.2).bind fun x2 => some (⟨x0.1, x1.1, x2.1⟩, x2.2)
def zkd (l : List (AV U)) : Option (DataType × List (AV U)) := (zcs .i64 l).bind fun x0 => (zcs .i64 x0.2).bind fun x1 => (zcs .i64 x1.2).bind fun x2 => some (⟨x0.1, x1.1, x2.1⟩, x2.2)
def zsq (l : List (AV U)) : Option (Number × List (AV U)) := (zcs .i64 l).bind fun x0 => (zcs .i64 x0.2).bind fun x1 => some (⟨x0.1, x1.1⟩, x1.2)
def zmm (l : List (AV U)) : Option (zC × List (AV U)) := (zcs .i64 l).bind fun x0 => (zcs .i64 x0.2).bind fun x1 => (zcs .i64 x1.2).bind fun x2 => (zcs .i64 x2.2).bind fun x3 => (zcs .i64 x3.2).bind fun x4 => (zn6 x4.2).bind fun x5 => (zn6 x5.2).bind fun x6 => (zkd x6.2).bind fun x7 => (zkd x7.2).bind fun x8 => (zft x8.2).bind fun x9 => (zft x9.2).bind fun x10 => (zsq x10.2).bind fun x11 => (zpe x11.2).bind fun x12 => (zpe x12.2).bind fun x13 => (zcs .i64 x13.2).bind fun x14 => (zcs .i64 x14.2).bind fun x15 => (zcs .i64 x15.2).bind fun x16 => (zcs .i64 x16.2).bind fun x17 => some (⟨x0.1, x1.1, x2.1, x3.1, x4.1, x5.1, x6.1, x7.1, x8.1, x9.1, x10.1, x11.1, x12.1, x13.1, x14.1, x15.1, x16.1, x17.1⟩, x17.2)
def zvk (l : List (AV U)) : Option (zQ × List (AV U)) := (zcs .i64 l).bind fun x0 => (zcs .i64 x0.2).bind fun x1 => (zcs .i64 x1.2).bind fun x2 => (zcs .i64 x2.2).bind fun x3 => some (⟨x0.1, x1.1, x2.1, x3.1⟩, x3.2)
def znw (l : List (AV U)) : Option (zF × List (AV U)) := (zqq l).bind fun x0 => (rSl Ty.zC x0.2).bind fun x1 => (rSl Ty.zQ x1.2).bind fun x2 => some (⟨x0.1, x1.1, x2.1⟩, x2.2)
def zvl (l : List (AV U)) : Option (zA × List (AV U)) := (zcs .i64 l).bind fun x0 => (zkd x0.2).bind fun x1 => (zcs .i64 x1.2).bind fun x2 => some (⟨x0.1, x1.1, x2.1⟩, x2.2)
def zqt (l : List (AV U)) : Option (zV × List (AV U)) := (rSl (Ty.sl Ty.zA) l).bind fun x0 => (rSl (Ty.int .i64) x0.2).bind fun x1 => some (⟨x0.1, x1.1⟩, x1.2)
def zuu (l : List (AV U)) : Option (Value × List (AV U)) := (zcs .i64 l).bind fun x0 => (zpe x0.2).bind fun x1 => some (⟨x0.1, x1.1⟩, x1.2)
def zqr (l : List (AV U)) : Option (zH × List (AV U)) := (zpe l).bind fun x0 => (zcs .i64 x0.2).bind fun x1 => (zkd x1.2).bind fun x2 => (zuu x2.2).bind fun x3 => (zpe x3.2).bind fun x4 => (zcs .i64 x4.2).bind fun x5 => (zcs .i64 x5.2).bind fun x6 => some (⟨x0.1, x1.1, x2.1, x3.1, x4.1, x5.1, x6.1⟩, x6.2)
def zml (l : List (AV U)) : Option (zO × List (AV U)) := (zcs .i64 l).bind fun x0 => (rSl (Ty.int .i64) x0.2).bind fun x1 => some (⟨x0.1, x1.1⟩, x1.2)
def zqs (l : List (AV U)) : Option (zT × List (AV U)) := (zcs .i64 l).bind fun x0 => (zcs .i64 x0.2).bind fun x1 => (zcs .i64 x1.2).bind fun x2 => (zcs .i64 x2.2).bind fun x3 => some (⟨x0.1, x1.1, x2.1, x3.1⟩, x3.2)
def znn (l : List (AV U)) : Option (zJ × List (AV U)) := (rSl Ty.zH l).bind fun x0 => (rSl Ty.zO x0.2).bind fun x1 => (rSl Ty.zT x1.2).bind fun x2 => some (⟨x0.1, x1.1, x2.1⟩, x2.2)
def zuv (l : List (AV U)) : Option (zX × List (AV U)) := (rSl (Ty.int .i64) l).bind fun x0 => some (⟨x0.1⟩, x0.2)
def zn5 (l : List (AV U)) : Option (Translation × List (AV U)) := (zn7 l).bind fun x0 => (znw x0.2).bind fun x1 => (zuv x1.2).bind fun x2 => some (⟨x0.1, x1.1, x2.1⟩, x2.2)
def zng (l : List (AV U)) : Option (Optimization × List (AV U)) := (zn7 l).bind fun x0 => (znw x0.2).bind fun x1 => (znw x1.2).bind fun x2 => (zqt x2.2).bind fun x3 => some (⟨x0.1, x1.1, x2.1, x3.1⟩, x3.2)
def ziz (l : List (AV U)) : Option (zG × List (AV U)) := (znn l).bind fun x0 => (rSl (Ty.int .i64) x0.2).bind fun x1 => (rSl Ty.zC x1.2).bind fun x2 => some (⟨x0.1, x1.1, x2.1⟩, x2.2)
def ztv (l : List (AV U)) : Option (zU × List (AV U)) := (zcs .i64 l).bind fun x0 => (zcs .i64 x0.2).bind fun x1 => some (⟨x0.1, x1.1⟩, x1.2)
def znf (l : List (AV U)) : Option (zN × List (AV U)) := (zft l).bind fun x0 => (zft x0.2).bind fun x1 => (zft x1.2).bind fun x2 => (zft x2.2).bind fun x3 => (zft x3.2).bind fun x4 => (zft x4.2).bind fun x5 => (zft x5.2).bind fun x6 => (zft x6.2).bind fun x7 => (zft x7.2).bind fun x8 => (zft x8.2).bind fun x9 => (zft x9.2).bind fun x10 => (zft x10.2).bind fun x11 => (zft x11.2).bind fun x12 => (zft x12.2).bind fun x13 => (zcs .i64 x13.2).bind fun x14 => (zcs .i64 x14.2).bind fun x15 => some (⟨x0.1, x1.1, x2.1, x3.1, x4.1, x5.1, x6.1, x7.1, x8.1, x9.1, x10.1, x11.1, x12.1, x13.1, x14.1, x15.1⟩, x15.2)
def zqu (l : List (AV U)) : Option (Address × List (AV U)) := (zcs .i64 l).bind fun x0 => (zcs .i64 x0.2).bind fun x1 => some (⟨x0.1, x1.1⟩, x1.2)
def ztu (l : List (AV U)) : Option (Pointer × List (AV U)) := (zcs .i64 l).bind fun x0 => (zqu x0.2).bind fun x1 => (zcs .i64 x1.2).bind fun x2 => some (⟨x0.1, x1.1, x2.1⟩, x2.2)
def zp2 (x : zR) : List (AV U) := [.sc (.int .i64 x.fields), .sc (.int .i64 x.types)]
def zl8 (x : zY) : List (AV U) := [.sc (.int .i64 x.x), .sc (.int .i64 x.y), .sc (.bool x.signed), .sc (.int .u8 x.code)]
def zi8 (x : zW) : List (AV U) := [.sc (.string x.msg), .sc (.int .u64 x.addr)]
def zyb (x : zI) : List (AV U) := [.sc (.int .i64 x.Registers), .sc (.bool x.yB), .sc (.bool x.zZ)]
def zx6 (x : Storage) : List (AV U) := [.sc (.string x.Bytes), .lst Ty.bool x.Tags]
def zya (x : zL) : List (AV U) := [.sc (.bool x.Based), .sc (.int .i64 x.Pointer), .sc (.int .i64 x.Offset)]
def zwb (x : DataType) : List (AV U) := [.sc (.int .i64 x.Kind), .sc (.int .i64 x.Length), .sc (.int .i64 x.Scale)]
def zzo (x : Number) : List (AV U) := [.sc (.int .i64 x.N), .sc (.int .i64 x.Scale)]
def zhl (x : zC) : List (AV U) := [.sc (.int .i64 x.Op), .sc (.int .i64 x.R), .sc (.int .i64 x.A), .sc (.int .i64 x.B), .sc (.int .i64 x.zM), .sc (.bool x.Place.Based), .sc (.int .i64 x.Place.Pointer), .sc (.int .i64 x.Place.Offset), .sc (.bool x.From.Based), .sc (.int .i64 x.From.Pointer), .sc (.int .i64 x.From.Offset), .sc (.int .i64 x.zD.Kind), .sc (.int .i64 x.zD.Length), .sc (.int .i64 x.zD.Scale), .sc (.int .i64 x.Second.Kind), .sc (.int .i64 x.Second.Length), .sc (.int .i64 x.Second.Scale), .sc (.bool x.Half), .sc (.bool x.zK), .sc (.int .i64 x.Number.N), .sc (.int .i64 x.Number.Scale), .sc (.string x.Text), .sc (.string x.Other), .sc (.int .i64 x.Mask), .sc (.int .i64 x.Target), .sc (.int .i64 x.Pointer), .sc (.int .i64 x.Source)]
def zzp (x : zQ) : List (AV U) := [.sc (.int .i64 x.From), .sc (.int .i64 x.To), .sc (.int .i64 x.Exception), .sc (.int .i64 x.Handler)]
def zgw (x : zF) : List (AV U) := [.sc (.string x.Storage.Bytes), .lst Ty.bool x.Storage.Tags, .lst Ty.zC x.zB, .lst Ty.zQ x.zP]
def zp5 (x : zA) : List (AV U) := [.sc (.int .i64 x.Register), .sc (.int .i64 x.zD.Kind), .sc (.int .i64 x.zD.Length), .sc (.int .i64 x.zD.Scale), .sc (.int .i64 x.Offset)]
def zx9 (x : zV) : List (AV U) := [.lst (Ty.sl Ty.zA) x.Facts, .lst (Ty.int .i64) x.Index]
def z2j (x : Value) : List (AV U) := [.sc (.int .i64 x.N), .sc (.string x.S)]
def zu6 (x : zH) : List (AV U) := [.sc (.string x.Name), .sc (.int .i64 x.Kind), .sc (.int .i64 x.zD.Kind), .sc (.int .i64 x.zD.Length), .sc (.int .i64 x.zD.Scale), .sc (.int .i64 x.Value.N), .sc (.string x.Value.S), .sc (.string x.Base), .sc (.int .i64 x.Offset), .sc (.int .i64 x.Target)]
def zp4 (x : zO) : List (AV U) := [.sc (.int .i64 x.Op), .lst (Ty.int .i64) x.Args]
def zu7 (x : zT) : List (AV U) := [.sc (.int .i64 x.From), .sc (.int .i64 x.To), .sc (.int .i64 x.Exception), .sc (.int .i64 x.Handler)]
def zu5 (x : zJ) : List (AV U) := [.lst Ty.zH x.zS, .lst Ty.zO x.zB, .lst Ty.zT x.yA]
def z2k (x : zX) : List (AV U) := [.lst (Ty.int .i64) x.Starts]
def zsc (x : Translation) : List (AV U) := [.sc (.int .i64 x.Model.Registers), .sc (.bool x.Model.yB), .sc (.bool x.Model.zZ), .sc (.string x.Code.Storage.Bytes), .lst Ty.bool x.Code.Storage.Tags, .lst Ty.zC x.Code.zB, .lst Ty.zQ x.Code.zP, .lst (Ty.int .i64) x.Map.Starts]
def zlb (x : Optimization) : List (AV U) := [.sc (.int .i64 x.Model.Registers), .sc (.bool x.Model.yB), .sc (.bool x.Model.zZ), .sc (.string x.Before.Storage.Bytes), .lst Ty.bool x.Before.Storage.Tags, .lst Ty.zC x.Before.zB, .lst Ty.zQ x.Before.zP, .sc (.string x.After.Storage.Bytes), .lst Ty.bool x.After.Storage.Tags, .lst Ty.zC x.After.zB, .lst Ty.zQ x.After.zP, .lst (Ty.sl Ty.zA) x.Proof.Facts, .lst (Ty.int .i64) x.Proof.Index]
def zlq (x : zG) : List (AV U) := [.lst Ty.zH x.zJ.zS, .lst Ty.zO x.zJ.zB, .lst Ty.zT x.zJ.yA, .lst (Ty.int .i64) x.layout, .lst Ty.zC x.code]
def zx8 (x : zU) : List (AV U) := [.sc (.int .i64 x.Part), .sc (.int .i64 x.Index)]
def zrl (x : zN) : List (AV U) := [.sc (.bool x.R), .sc (.bool x.A), .sc (.bool x.B), .sc (.bool x.Place), .sc (.bool x.From), .sc (.bool x.Half), .sc (.bool x.Number), .sc (.bool x.zM), .sc (.bool x.Mask), .sc (.bool x.Target), .sc (.bool x.Text), .sc (.bool x.Other), .sc (.bool x.Pointer), .sc (.bool x.Source), .sc (.int .i64 x.zD), .sc (.int .i64 x.Second)]
def zyc (x : Address) : List (AV U) := [.sc (.int .i64 x.yC), .sc (.int .i64 x.Offset)]
def zx7 (x : Pointer) : List (AV U) := [.sc (.int .i64 x.Kind), .sc (.int .i64 x.Address.yC), .sc (.int .i64 x.Address.Offset), .sc (.int .i64 x.Authority)]
def z79 : (n : Nat) → zz8 n → List (AV U)
 | 0, x => zp2 x
 | 1, x => zl8 x
 | 2, x => zi8 x
 | 3, x => zyb x
 | 4, x => zx6 x
 | 5, x => zya x
 | 6, x => zwb x
 | 7, x => zzo x
 | 8, x => zhl x
 | 9, x => zzp x
 | 10, x => zgw x
 | 11, x => zp5 x
 | 12, x => zx9 x
 | 13, x => z2j x
 | 14, x => zu6 x
 | 15, x => zp4 x
 | 16, x => zu7 x
 | 17, x => zu5 x
 | 18, x => z2k x
 | 19, x => zsc x
 | 20, x => zlb x
 | 21, x => zlq x
 | 22, x => zx8 x
 | 23, x => zrl x
 | 24, x => zyc x
 | 25, x => zx7 x
 | _ + 26, _ => [.sc (.bool true)]
def z8g : (n : Nat) → List (AV U) → Option (zz8 n × List (AV U))
 | 0, l => zmh l
 | 1, l => zjc l
 | 2, l => zgq l
 | 3, l => zn7 l
 | 4, l => zqq l
 | 5, l => zn6 l
 | 6, l => zkd l
 | 7, l => zsq l
 | 8, l => zmm l
 | 9, l => zvk l
 | 10, l => znw l
 | 11, l => zvl l
 | 12, l => zqt l
 | 13, l => zuu l
 | 14, l => zqr l
 | 15, l => zml l
 | 16, l => zqs l
 | 17, l => znn l
 | 18, l => zuv l
 | 19, l => zn5 l
 | 20, l => zng l
 | 21, l => ziz l
 | 22, l => ztv l
 | 23, l => znf l
 | 24, l => zqu l
 | 25, l => ztu l
 | _ + 26, _ => none
def enc : (t : Ty) → den t → List (AV U)
 | .int k, n => [.sc (.int k n)]
 | .bool, b => [.sc (.bool b)]
 | .str, s => [.sc (.string s)]
 | .nil, _ => [.sc (.slice none 0 0)]
 | .sl t, xs => [.lst t xs]
 | .st n, x => z79 n x
def rd : (t : Ty) → List (AV U) → Option (den t × List (AV U))
 | .int k, l => zcs k l
 | .bool, l => zft l
 | .str, l => zpe l
 | .nil, l => z3m l
 | .sl t, l => rSl t l
 | .st n, l => z8g n l
def reify (t : Ty) (l : List (AV U)) : Option (den t) := (rd t l).bind fun r => match r.2 with
 | [] => some r.1
 | _ => none
def z8f : Nat → Nat
 | 0 => 2
 | 1 => 4
 | 2 => 2
 | 3 => 3
 | 4 => 2
 | 5 => 3
 | 6 => 3
 | 7 => 2
 | 8 => 27
 | 9 => 4
 | 10 => 4
 | 11 => 5
 | 12 => 2
 | 13 => 2
 | 14 => 10
 | 15 => 2
 | 16 => 4
 | 17 => 3
 | 18 => 1
 | 19 => 8
 | 20 => 13
 | 21 => 5
 | 22 => 2
 | 23 => 16
 | 24 => 2
 | 25 => 4
 | _ + 26 => 1
def z62 : Nat → Bool
 | 0 => true
 | 1 => true
 | 2 => true
 | 3 => true
 | 4 => false
 | 5 => true
 | 6 => true
 | 7 => true
 | 8 => true
 | 9 => true
 | 10 => false
 | 11 => true
 | 12 => false
 | 13 => true
 | 14 => true
 | 15 => false
 | 16 => true
 | 17 => false
 | 18 => false
 | 19 => false
 | 20 => false
 | 21 => false
 | 22 => true
 | 23 => true
 | 24 => true
 | 25 => true
 | _ + 26 => true
def szT : Ty → Nat
 | .st n => z8f n
 | _ => 1
def z67 : Ty → Bool
 | .st _ => true
 | _ => false
def z4n : Ty → Bool
 | .sl _ => false
 | .st n => z62 n
 | _ => true
def z4j : List (Nat × Ty) := [(2, (Ty.int .i64)), (3, (Ty.int .i64)), (4, Ty.bool), (5, (Ty.int .u8)), (6, (Ty.int .u8)), (8, Ty.zY), (9, Ty.str), (10, Ty.str), (11, Ty.str), (12, (Ty.int .u64)), (14, Ty.zW), (21, (Ty.int .i32)), (23, Ty.zI), (24, (Ty.sl Ty.bool)), (26, Ty.Storage), (27, (Ty.sl Ty.zC)), (28, (Ty.sl Ty.zQ)), (30, Ty.zF), (33, (Ty.sl (Ty.sl Ty.zA))), (34, (Ty.int .i64)), (43, (Ty.sl (Ty.int .i64))), (45, Ty.zV), (49, Ty.zL), (51, Ty.DataType), (53, Ty.Number), (55, Ty.zC), (56, (Ty.sl Ty.zH)), (57, (Ty.sl Ty.zO)), (58, (Ty.sl Ty.zT)), (60, Ty.zJ), (62, Ty.zX), (64, Ty.Translation), (75, Ty.Optimization), (88, (Ty.sl Ty.zA)), (97, Ty.zA), (107, Ty.Value), (109, Ty.zH), (111, Ty.zO), (123, Ty.zQ), (129, Ty.zT), (141, Ty.zG), (158, (Ty.sl (Ty.int .i64))), (160, Ty.zU), (182, (Ty.sl (Ty.int .u8))), (194, Ty.zN), (226, Ty.Address), (228, Ty.Pointer), (234, Ty.zR), (252, (Ty.int .u64)), (287, (Ty.int .u32)), (290, (Ty.int .u64)), (303, (Ty.int .i64)), (312, (Ty.int .u64)), (324, (Ty.int .u8)), (325, (Ty.int .u8)), (327, (Ty.int .i32)), (328, (Ty.int .i32))]
def En : Enc U := { sz := szT, agg := z67, flat := z4n, enc := enc, reify := reify, ofGo := pick z4j, sl := Ty.sl, toSl := fun _ xs => xs, ofSl := fun _ xs => xs, u8 := .int .u8, ofInts := fun l => l, toInts := fun l => l }
def z0u : List (List Int) := [[0, 4], [2, 3], [2, 3, 3], [2, 3, 3], [2, 3, 3], [2, 3, 3], [2, 3, 3], [1, 4, 6], [1, 4, 6], [6], [5, 0], [5, 5], [5, 3], [6], [], [3], [2], [1], []]
def z0v : List zR := [⟨41, 1⟩, ⟨169, 1⟩, ⟨257, 0⟩, ⟨3, 0⟩, ⟨32807, 1⟩, ⟨6, 0⟩, ⟨6144, 0⟩, ⟨6150, 0⟩, ⟨4096, 0⟩, ⟨120, 2⟩, ⟨552, 2⟩, ⟨120, 2⟩, ⟨552, 2⟩, ⟨1536, 0⟩, ⟨8232, 3⟩, ⟨24576, 0⟩, ⟨8193, 0⟩, ⟨8192, 0⟩, ⟨4096, 0⟩, ⟨0, 0⟩, ⟨1, 0⟩, ⟨1, 0⟩, ⟨1, 0⟩, ⟨40, 2⟩, ⟨512, 0⟩, ⟨0, 0⟩, ⟨0, 0⟩]
def globs : List (Nat × AV U) := [(0, .rarr (Ty.sl (Ty.int .i64)) z0u), (1, .rarr Ty.zR z0v)]
def zpj (O : List (Nat × Ct U)) (X : List (Nat × Nat)) (J : List (Nat × Amx.Spec U × List Ty)) (pre : List (Nat × List Nat)) (lits ro pk bj : List Nat) : Ctx U :=
 { P := Proofs.Tryz.prog, En := En, G := pick globs, O := pick O, X := pick X, joins := pick J, pre := fun r => (pick pre r).getD [], lits := lits, ro := ro, pk := pk, bj := bj }
theorem za9 (k : IntKind) : Sp (U := U) (zcs k) (fun n : Int => [.sc (.int k n)]) := fun l x r h => by
 unfold zcs at h
 split at h
 · split at h
   · rename_i e; cases h; subst e; exact ⟨[_], rfl, F2.refl_ref _⟩
   · cases h
 · cases h
theorem zd7 : Sp (U := U) zft (fun b : Bool => [.sc (.bool b)]) := fun l x r h => by
 unfold zft at h
 split at h
 · cases h; exact ⟨[_], rfl, F2.refl_ref _⟩
 · cases h
theorem zm6 : Sp (U := U) zpe (fun s : ByteArray => [.sc (.string s)]) := fun l x r h => by
 unfold zpe at h
 split at h
 · cases h; exact ⟨[_], rfl, F2.refl_ref _⟩
 · cases h
theorem z6e : Sp (U := U) z3m (fun _ : Unit => [.sc (.slice none 0 0)]) := fun l x r h => by
 unfold z3m at h
 split at h
 · cases h; exact ⟨[_], rfl, F2.refl_ref _⟩
 · cases h
theorem zkl (t : Ty) : Sp (U := U) (rSl t) (fun xs : List (den t) => [.lst t xs]) := fun l x r h => by
 unfold rSl at h
 split at h
 · rw [Option.map_eq_some_iff] at h; obtain ⟨⟨e⟩, _, h2⟩ := h; cases e; cases h2; exact ⟨[_], rfl, F2.refl_ref _⟩
 · cases h; exact ⟨[_], rfl, .cons (.inr ⟨rfl, _, rfl⟩) .nil⟩
 · cases h
theorem ztj : Sp (U := U) zmh zp2 := fun l x r h => by
 unfold zmh at h
 obtain ⟨x0, r0, p0, e0, f0, h⟩ := (za9 .i64).step h
 obtain ⟨x1, r1, p1, (e1 : r0 = p1 ++ r1), f1, h⟩ := (za9 .i64).step h
 cases h
 exact ⟨(p0 ++ p1), by rw [e0, e1]; simp only [List.append_assoc], (f0.append f1)⟩
theorem zpb : Sp (U := U) zjc zl8 := fun l x r h => by
 unfold zjc at h
 obtain ⟨x0, r0, p0, e0, f0, h⟩ := (za9 .i64).step h
 obtain ⟨x1, r1, p1, (e1 : r0 = p1 ++ r1), f1, h⟩ := (za9 .i64).step h
 obtain ⟨x2, r2, p2, (e2 : r1 = p2 ++ r2), f2, h⟩ := zd7.step h
 obtain ⟨x3, r3, p3, (e3 : r2 = p3 ++ r3), f3, h⟩ := (za9 .u8).step h
 cases h
 exact ⟨(p0 ++ (p1 ++ (p2 ++ p3))), by rw [e0, e1, e2, e3]; simp only [List.append_assoc], (f0.append (f1.append (f2.append f3)))⟩
theorem zmc : Sp (U := U) zgq zi8 := fun l x r h => by
 unfold zgq at h
 obtain ⟨x0, r0, p0, e0, f0, h⟩ := zm6.step h
 obtain ⟨x1, r1, p1, (e1 : r0 = p1 ++ r1), f1, h⟩ := (za9 .u64).step h
 cases h
 exact ⟨(p0 ++ p1), by rw [e0, e1]; simp only [List.append_assoc], (f0.append f1)⟩
theorem zqj : Sp (U := U) zn7 zyb := fun l x r h => by
 unfold zn7 at h
 obtain ⟨x0, r0, p0, e0, f0, h⟩ := (za9 .i64).step h
 obtain ⟨x1, r1, p1, (e1 : r0 = p1 ++ r1), f1, h⟩ := zd7.step h
 obtain ⟨x2, r2, p2, (e2 : r1 = p2 ++ r2), f2, h⟩ := zd7.step h
 cases h
 exact ⟨(p0 ++ (p1 ++ p2)), by rw [e0, e1, e2]; simp only [List.append_assoc], (f0.append (f1.append f2))⟩
theorem zug : Sp (U := U) zqq zx6 := fun l x r h => by
 unfold zqq at h
 obtain ⟨x0, r0, p0, e0, f0, h⟩ := zm6.step h
 obtain ⟨x1, r1, p1, (e1 : r0 = p1 ++ r1), f1, h⟩ := (zkl Ty.bool).step h
 cases h
 exact ⟨(p0 ++ p1), by rw [e0, e1]; simp only [List.append_assoc], (f0.append f1)⟩
theorem zqi : Sp (U := U) zn6 zya := fun l x r h => by
 unfold zn6 at h
 obtain ⟨x0, r0, p0, e0, f0, h⟩ := zd7.step h
 obtain ⟨x1, r1, p1, (e1 : r0 = p1 ++ r1), f1, h⟩ := (za9 .i64).step h
 obtain ⟨x2, r2, p2, (e2 : r1 = p2 ++ r2), f2, h⟩ := (za9 .i64).step h
 cases h
 exact ⟨(p0 ++ (p1 ++ p2)), by rw [e0, e1, e2]; simp only [List.append_assoc], (f0.append (f1.append f2))⟩
theorem zky : Sp (U := U) zkd zwb := fun l x r h => by
 unfold zkd at h
 obtain ⟨x0, r0, p0, e0, f0, h⟩ := (za9 .i64).step h
 obtain ⟨x1, r1, p1, (e1 : r0 = p1 ++ r1), f1, h⟩ := (za9 .i64).step h
 obtain ⟨x2, r2, p2, (e2 : r1 = p2 ++ r2), f2, h⟩ := (za9 .i64).step h
 cases h
 exact ⟨(p0 ++ (p1 ++ p2)), by rw [e0, e1, e2]; simp only [List.append_assoc], (f0.append (f1.append f2))⟩
theorem zv2 : Sp (U := U) zsq zzo := fun l x r h => by
 unfold zsq at h
 obtain ⟨x0, r0, p0, e0, f0, h⟩ := (za9 .i64).step h
 obtain ⟨x1, r1, p1, (e1 : r0 = p1 ++ r1), f1, h⟩ := (za9 .i64).step h
 cases h
 exact ⟨(p0 ++ p1), by rw [e0, e1]; simp only [List.append_assoc], (f0.append f1)⟩
theorem ztl : Sp (U := U) zmm zhl := fun l x r h => by
 unfold zmm at h
 obtain ⟨x0, r0, p0, e0, f0, h⟩ := (za9 .i64).step h
 obtain ⟨x1, r1, p1, (e1 : r0 = p1 ++ r1), f1, h⟩ := (za9 .i64).step h
 obtain ⟨x2, r2, p2, (e2 : r1 = p2 ++ r2), f2, h⟩ := (za9 .i64).step h
 obtain ⟨x3, r3, p3, (e3 : r2 = p3 ++ r3), f3, h⟩ := (za9 .i64).step h
 obtain ⟨x4, r4, p4, (e4 : r3 = p4 ++ r4), f4, h⟩ := (za9 .i64).step h
 obtain ⟨x5, r5, p5, (e5 : r4 = p5 ++ r5), f5, h⟩ := zqi.step h
 obtain ⟨x6, r6, p6, (e6 : r5 = p6 ++ r6), f6, h⟩ := zqi.step h
 obtain ⟨x7, r7, p7, (e7 : r6 = p7 ++ r7), f7, h⟩ := zky.step h
 obtain ⟨x8, r8, p8, (e8 : r7 = p8 ++ r8), f8, h⟩ := zky.step h
 obtain ⟨x9, r9, p9, (e9 : r8 = p9 ++ r9), f9, h⟩ := zd7.step h
 obtain ⟨x10, r10, p10, (e10 : r9 = p10 ++ r10), f10, h⟩ := zd7.step h
 obtain ⟨x11, r11, p11, (e11 : r10 = p11 ++ r11), f11, h⟩ := zv2.step h
 obtain ⟨x12, r12, p12, (e12 : r11 = p12 ++ r12), f12, h⟩ := zm6.step h
 obtain ⟨x13, r13, p13, (e13 : r12 = p13 ++ r13), f13, h⟩ := zm6.step h
 obtain ⟨x14, r14, p14, (e14 : r13 = p14 ++ r14), f14, h⟩ := (za9 .i64).step h
 obtain ⟨x15, r15, p15, (e15 : r14 = p15 ++ r15), f15, h⟩ := (za9 .i64).step h
 obtain ⟨x16, r16, p16, (e16 : r15 = p16 ++ r16), f16, h⟩ := (za9 .i64).step h
 obtain ⟨x17, r17, p17, (e17 : r16 = p17 ++ r17), f17, h⟩ := (za9 .i64).step h
 cases h
 exact ⟨(p0 ++ (p1 ++ (p2 ++ (p3 ++ (p4 ++ (p5 ++ (p6 ++ (p7 ++ (p8 ++ (p9 ++ (p10 ++ (p11 ++ (p12 ++ (p13 ++ (p14 ++ (p15 ++ (p16 ++ p17))))))))))))))))), by rw [e0, e1, e2, e3, e4, e5, e6, e7, e8, e9, e10, e11, e12, e13, e14, e15, e16, e17]; simp only [List.append_assoc], (f0.append (f1.append (f2.append (f3.append (f4.append (f5.append (f6.append (f7.append (f8.append (f9.append (f10.append (f11.append (f12.append (f13.append (f14.append (f15.append (f16.append f17)))))))))))))))))⟩
theorem z1k : Sp (U := U) zvk zzp := fun l x r h => by
 unfold zvk at h
 obtain ⟨x0, r0, p0, e0, f0, h⟩ := (za9 .i64).step h
 obtain ⟨x1, r1, p1, (e1 : r0 = p1 ++ r1), f1, h⟩ := (za9 .i64).step h
 obtain ⟨x2, r2, p2, (e2 : r1 = p2 ++ r2), f2, h⟩ := (za9 .i64).step h
 obtain ⟨x3, r3, p3, (e3 : r2 = p3 ++ r3), f3, h⟩ := (za9 .i64).step h
 cases h
 exact ⟨(p0 ++ (p1 ++ (p2 ++ p3))), by rw [e0, e1, e2, e3]; simp only [List.append_assoc], (f0.append (f1.append (f2.append f3)))⟩
theorem zoo : Sp (U := U) znw zgw := fun l x r h => by
 unfold znw at h
 obtain ⟨x0, r0, p0, e0, f0, h⟩ := zug.step h
 obtain ⟨x1, r1, p1, (e1 : r0 = p1 ++ r1), f1, h⟩ := (zkl Ty.zC).step h
 obtain ⟨x2, r2, p2, (e2 : r1 = p2 ++ r2), f2, h⟩ := (zkl Ty.zQ).step h
 cases h
 exact ⟨(p0 ++ (p1 ++ p2)), by rw [e0, e1, e2]; simp only [List.append_assoc], (f0.append (f1.append f2))⟩
theorem z1l : Sp (U := U) zvl zp5 := fun l x r h => by
 unfold zvl at h
 obtain ⟨x0, r0, p0, e0, f0, h⟩ := (za9 .i64).step h
 obtain ⟨x1, r1, p1, (e1 : r0 = p1 ++ r1), f1, h⟩ := zky.step h
 obtain ⟨x2, r2, p2, (e2 : r1 = p2 ++ r2), f2, h⟩ := (za9 .i64).step h
 cases h
 exact ⟨(p0 ++ (p1 ++ p2)), by rw [e0, e1, e2]; simp only [List.append_assoc], (f0.append (f1.append f2))⟩
theorem zui : Sp (U := U) zqt zx9 := fun l x r h => by
 unfold zqt at h
 obtain ⟨x0, r0, p0, e0, f0, h⟩ := (zkl (Ty.sl Ty.zA)).step h
 obtain ⟨x1, r1, p1, (e1 : r0 = p1 ++ r1), f1, h⟩ := (zkl (Ty.int .i64)).step h
 cases h
 exact ⟨(p0 ++ p1), by rw [e0, e1]; simp only [List.append_assoc], (f0.append f1)⟩
theorem zw2 : Sp (U := U) zuu z2j := fun l x r h => by
 unfold zuu at h
 obtain ⟨x0, r0, p0, e0, f0, h⟩ := (za9 .i64).step h
 obtain ⟨x1, r1, p1, (e1 : r0 = p1 ++ r1), f1, h⟩ := zm6.step h
 cases h
 exact ⟨(p0 ++ p1), by rw [e0, e1]; simp only [List.append_assoc], (f0.append f1)⟩
theorem zw3 : Sp (U := U) zqr zu6 := fun l x r h => by
 unfold zqr at h
 obtain ⟨x0, r0, p0, e0, f0, h⟩ := zm6.step h
 obtain ⟨x1, r1, p1, (e1 : r0 = p1 ++ r1), f1, h⟩ := (za9 .i64).step h
 obtain ⟨x2, r2, p2, (e2 : r1 = p2 ++ r2), f2, h⟩ := zky.step h
 obtain ⟨x3, r3, p3, (e3 : r2 = p3 ++ r3), f3, h⟩ := zw2.step h
 obtain ⟨x4, r4, p4, (e4 : r3 = p4 ++ r4), f4, h⟩ := zm6.step h
 obtain ⟨x5, r5, p5, (e5 : r4 = p5 ++ r5), f5, h⟩ := (za9 .i64).step h
 obtain ⟨x6, r6, p6, (e6 : r5 = p6 ++ r6), f6, h⟩ := (za9 .i64).step h
 cases h
 exact ⟨(p0 ++ (p1 ++ (p2 ++ (p3 ++ (p4 ++ (p5 ++ p6)))))), by rw [e0, e1, e2, e3, e4, e5, e6]; simp only [List.append_assoc], (f0.append (f1.append (f2.append (f3.append (f4.append (f5.append f6))))))⟩
theorem ztk : Sp (U := U) zml zp4 := fun l x r h => by
 unfold zml at h
 obtain ⟨x0, r0, p0, e0, f0, h⟩ := (za9 .i64).step h
 obtain ⟨x1, r1, p1, (e1 : r0 = p1 ++ r1), f1, h⟩ := (zkl (Ty.int .i64)).step h
 cases h
 exact ⟨(p0 ++ p1), by rw [e0, e1]; simp only [List.append_assoc], (f0.append f1)⟩
theorem zw4 : Sp (U := U) zqs zu7 := fun l x r h => by
 unfold zqs at h
 obtain ⟨x0, r0, p0, e0, f0, h⟩ := (za9 .i64).step h
 obtain ⟨x1, r1, p1, (e1 : r0 = p1 ++ r1), f1, h⟩ := (za9 .i64).step h
 obtain ⟨x2, r2, p2, (e2 : r1 = p2 ++ r2), f2, h⟩ := (za9 .i64).step h
 obtain ⟨x3, r3, p3, (e3 : r2 = p3 ++ r3), f3, h⟩ := (za9 .i64).step h
 cases h
 exact ⟨(p0 ++ (p1 ++ (p2 ++ p3))), by rw [e0, e1, e2, e3]; simp only [List.append_assoc], (f0.append (f1.append (f2.append f3)))⟩
theorem zrt : Sp (U := U) znn zu5 := fun l x r h => by
 unfold znn at h
 obtain ⟨x0, r0, p0, e0, f0, h⟩ := (zkl Ty.zH).step h
 obtain ⟨x1, r1, p1, (e1 : r0 = p1 ++ r1), f1, h⟩ := (zkl Ty.zO).step h
 obtain ⟨x2, r2, p2, (e2 : r1 = p2 ++ r2), f2, h⟩ := (zkl Ty.zT).step h
 cases h
 exact ⟨(p0 ++ (p1 ++ p2)), by rw [e0, e1, e2]; simp only [List.append_assoc], (f0.append (f1.append f2))⟩
theorem zw5 : Sp (U := U) zuv z2k := fun l x r h => by
 unfold zuv at h
 obtain ⟨x0, r0, p0, e0, f0, h⟩ := (zkl (Ty.int .i64)).step h
 cases h
 exact ⟨p0, by rw [e0], f0⟩
theorem zvf : Sp (U := U) zn5 zsc := fun l x r h => by
 unfold zn5 at h
 obtain ⟨x0, r0, p0, e0, f0, h⟩ := zqj.step h
 obtain ⟨x1, r1, p1, (e1 : r0 = p1 ++ r1), f1, h⟩ := zoo.step h
 obtain ⟨x2, r2, p2, (e2 : r1 = p2 ++ r2), f2, h⟩ := zw5.step h
 cases h
 exact ⟨(p0 ++ (p1 ++ p2)), by rw [e0, e1, e2]; simp only [List.append_assoc], (f0.append (f1.append f2))⟩
theorem zuh : Sp (U := U) zng zlb := fun l x r h => by
 unfold zng at h
 obtain ⟨x0, r0, p0, e0, f0, h⟩ := zqj.step h
 obtain ⟨x1, r1, p1, (e1 : r0 = p1 ++ r1), f1, h⟩ := zoo.step h
 obtain ⟨x2, r2, p2, (e2 : r1 = p2 ++ r2), f2, h⟩ := zoo.step h
 obtain ⟨x3, r3, p3, (e3 : r2 = p3 ++ r3), f3, h⟩ := zui.step h
 cases h
 exact ⟨(p0 ++ (p1 ++ (p2 ++ p3))), by rw [e0, e1, e2, e3]; simp only [List.append_assoc], (f0.append (f1.append (f2.append f3)))⟩
theorem zok : Sp (U := U) ziz zlq := fun l x r h => by
 unfold ziz at h
 obtain ⟨x0, r0, p0, e0, f0, h⟩ := zrt.step h
 obtain ⟨x1, r1, p1, (e1 : r0 = p1 ++ r1), f1, h⟩ := (zkl (Ty.int .i64)).step h
 obtain ⟨x2, r2, p2, (e2 : r1 = p2 ++ r2), f2, h⟩ := (zkl Ty.zC).step h
 cases h
 exact ⟨(p0 ++ (p1 ++ p2)), by rw [e0, e1, e2]; simp only [List.append_assoc], (f0.append (f1.append f2))⟩
theorem z0a : Sp (U := U) ztv zx8 := fun l x r h => by
 unfold ztv at h
 obtain ⟨x0, r0, p0, e0, f0, h⟩ := (za9 .i64).step h
 obtain ⟨x1, r1, p1, (e1 : r0 = p1 ++ r1), f1, h⟩ := (za9 .i64).step h
 cases h
 exact ⟨(p0 ++ p1), by rw [e0, e1]; simp only [List.append_assoc], (f0.append f1)⟩
theorem zuf : Sp (U := U) znf zrl := fun l x r h => by
 unfold znf at h
 obtain ⟨x0, r0, p0, e0, f0, h⟩ := zd7.step h
 obtain ⟨x1, r1, p1, (e1 : r0 = p1 ++ r1), f1, h⟩ := zd7.step h
 obtain ⟨x2, r2, p2, (e2 : r1 = p2 ++ r2), f2, h⟩ := zd7.step h
 obtain ⟨x3, r3, p3, (e3 : r2 = p3 ++ r3), f3, h⟩ := zd7.step h
 obtain ⟨x4, r4, p4, (e4 : r3 = p4 ++ r4), f4, h⟩ := zd7.step h
 obtain ⟨x5, r5, p5, (e5 : r4 = p5 ++ r5), f5, h⟩ := zd7.step h
 obtain ⟨x6, r6, p6, (e6 : r5 = p6 ++ r6), f6, h⟩ := zd7.step h
 obtain ⟨x7, r7, p7, (e7 : r6 = p7 ++ r7), f7, h⟩ := zd7.step h
 obtain ⟨x8, r8, p8, (e8 : r7 = p8 ++ r8), f8, h⟩ := zd7.step h
 obtain ⟨x9, r9, p9, (e9 : r8 = p9 ++ r9), f9, h⟩ := zd7.step h
 obtain ⟨x10, r10, p10, (e10 : r9 = p10 ++ r10), f10, h⟩ := zd7.step h
 obtain ⟨x11, r11, p11, (e11 : r10 = p11 ++ r11), f11, h⟩ := zd7.step h
 obtain ⟨x12, r12, p12, (e12 : r11 = p12 ++ r12), f12, h⟩ := zd7.step h
 obtain ⟨x13, r13, p13, (e13 : r12 = p13 ++ r13), f13, h⟩ := zd7.step h
 obtain ⟨x14, r14, p14, (e14 : r13 = p14 ++ r14), f14, h⟩ := (za9 .i64).step h
 obtain ⟨x15, r15, p15, (e15 : r14 = p15 ++ r15), f15, h⟩ := (za9 .i64).step h
 cases h
 exact ⟨(p0 ++ (p1 ++ (p2 ++ (p3 ++ (p4 ++ (p5 ++ (p6 ++ (p7 ++ (p8 ++ (p9 ++ (p10 ++ (p11 ++ (p12 ++ (p13 ++ (p14 ++ p15))))))))))))))), by rw [e0, e1, e2, e3, e4, e5, e6, e7, e8, e9, e10, e11, e12, e13, e14, e15]; simp only [List.append_assoc], (f0.append (f1.append (f2.append (f3.append (f4.append (f5.append (f6.append (f7.append (f8.append (f9.append (f10.append (f11.append (f12.append (f13.append (f14.append f15)))))))))))))))⟩
theorem zuj : Sp (U := U) zqu zyc := fun l x r h => by
 unfold zqu at h
 obtain ⟨x0, r0, p0, e0, f0, h⟩ := (za9 .i64).step h
 obtain ⟨x1, r1, p1, (e1 : r0 = p1 ++ r1), f1, h⟩ := (za9 .i64).step h
 cases h
 exact ⟨(p0 ++ p1), by rw [e0, e1]; simp only [List.append_assoc], (f0.append f1)⟩
theorem zz9 : Sp (U := U) ztu zx7 := fun l x r h => by
 unfold ztu at h
 obtain ⟨x0, r0, p0, e0, f0, h⟩ := (za9 .i64).step h
 obtain ⟨x1, r1, p1, (e1 : r0 = p1 ++ r1), f1, h⟩ := zuj.step h
 obtain ⟨x2, r2, p2, (e2 : r1 = p2 ++ r2), f2, h⟩ := (za9 .i64).step h
 cases h
 exact ⟨(p0 ++ (p1 ++ p2)), by rw [e0, e1, e2]; simp only [List.append_assoc], (f0.append (f1.append f2))⟩
theorem sp : ∀ t : Ty, Sp (U := U) (rd t) (enc t)
 | .int k => za9 k
 | .bool => zd7
 | .str => zm6
 | .nil => z6e
 | .sl t => zkl t
 | .st 0 => ztj
 | .st 1 => zpb
 | .st 2 => zmc
 | .st 3 => zqj
 | .st 4 => zug
 | .st 5 => zqi
 | .st 6 => zky
 | .st 7 => zv2
 | .st 8 => ztl
 | .st 9 => z1k
 | .st 10 => zoo
 | .st 11 => z1l
 | .st 12 => zui
 | .st 13 => zw2
 | .st 14 => zw3
 | .st 15 => ztk
 | .st 16 => zw4
 | .st 17 => zrt
 | .st 18 => zw5
 | .st 19 => zvf
 | .st 20 => zuh
 | .st 21 => zok
 | .st 22 => z0a
 | .st 23 => zuf
 | .st 24 => zuj
 | .st 25 => zz9
 | .st (_ + 26) => fun l x r h => by cases h
theorem z4d : ∀ (t : Ty) (x : den t), (enc t x).length = szT t
 | .int _, _ => rfl
 | .bool, _ => rfl
 | .str, _ => rfl
 | .nil, _ => rfl
 | .sl _, _ => rfl
 | .st 0, _ => rfl
 | .st 1, _ => rfl
 | .st 2, _ => rfl
 | .st 3, _ => rfl
 | .st 4, _ => rfl
 | .st 5, _ => rfl
 | .st 6, _ => rfl
 | .st 7, _ => rfl
 | .st 8, _ => rfl
 | .st 9, _ => rfl
 | .st 10, _ => rfl
 | .st 11, _ => rfl
 | .st 12, _ => rfl
 | .st 13, _ => rfl
 | .st 14, _ => rfl
 | .st 15, _ => rfl
 | .st 16, _ => rfl
 | .st 17, _ => rfl
 | .st 18, _ => rfl
 | .st 19, _ => rfl
 | .st 20, _ => rfl
 | .st 21, _ => rfl
 | .st 22, _ => rfl
 | .st 23, _ => rfl
 | .st 24, _ => rfl
 | .st 25, _ => rfl
 | .st (_ + 26), _ => rfl
theorem z6n : ∀ t : Ty, 0 < szT t
 | .int _ => Nat.one_pos
 | .bool => Nat.one_pos
 | .str => Nat.one_pos
 | .nil => Nat.one_pos
 | .sl _ => Nat.one_pos
 | .st 0 => (by decide : 0 < 2)
 | .st 1 => (by decide : 0 < 4)
 | .st 2 => (by decide : 0 < 2)
 | .st 3 => (by decide : 0 < 3)
 | .st 4 => (by decide : 0 < 2)
 | .st 5 => (by decide : 0 < 3)
 | .st 6 => (by decide : 0 < 3)
 | .st 7 => (by decide : 0 < 2)
 | .st 8 => (by decide : 0 < 27)
 | .st 9 => (by decide : 0 < 4)
 | .st 10 => (by decide : 0 < 4)
 | .st 11 => (by decide : 0 < 5)
 | .st 12 => (by decide : 0 < 2)
 | .st 13 => (by decide : 0 < 2)
 | .st 14 => (by decide : 0 < 10)
 | .st 15 => (by decide : 0 < 2)
 | .st 16 => (by decide : 0 < 4)
 | .st 17 => (by decide : 0 < 3)
 | .st 18 => (by decide : 0 < 1)
 | .st 19 => (by decide : 0 < 8)
 | .st 20 => (by decide : 0 < 13)
 | .st 21 => (by decide : 0 < 5)
 | .st 22 => (by decide : 0 < 2)
 | .st 23 => (by decide : 0 < 16)
 | .st 24 => (by decide : 0 < 2)
 | .st 25 => (by decide : 0 < 4)
 | .st (_ + 26) => Nat.one_pos
theorem z78 : ∀ (t : Ty) (x : den t), (enc t x).all (fzc (U := U)) = true
 | .int _, _ => rfl
 | .bool, _ => rfl
 | .str, _ => rfl
 | .nil, _ => rfl
 | .sl _, _ => rfl
 | .st 0, _ => rfl
 | .st 1, _ => rfl
 | .st 2, _ => rfl
 | .st 3, _ => rfl
 | .st 4, _ => rfl
 | .st 5, _ => rfl
 | .st 6, _ => rfl
 | .st 7, _ => rfl
 | .st 8, _ => rfl
 | .st 9, _ => rfl
 | .st 10, _ => rfl
 | .st 11, _ => rfl
 | .st 12, _ => rfl
 | .st 13, _ => rfl
 | .st 14, _ => rfl
 | .st 15, _ => rfl
 | .st 16, _ => rfl
 | .st 17, _ => rfl
 | .st 18, _ => rfl
 | .st 19, _ => rfl
 | .st 20, _ => rfl
 | .st 21, _ => rfl
 | .st 22, _ => rfl
 | .st 23, _ => rfl
 | .st 24, _ => rfl
 | .st 25, _ => rfl
 | .st (_ + 26), _ => rfl
theorem z5t : ∀ t : Ty, z4n t = true → ∀ x : den t, (enc t x).all (z1m (U := U)) = true
 | .int _, _, _ => rfl
 | .bool, _, _ => rfl
 | .str, _, _ => rfl
 | .nil, _, _ => rfl
 | .sl _, h, _ => by cases h
 | .st 0, _, _ => rfl
 | .st 1, _, _ => rfl
 | .st 2, _, _ => rfl
 | .st 3, _, _ => rfl
 | .st 4, h, _ => by cases h
 | .st 5, _, _ => rfl
 | .st 6, _, _ => rfl
 | .st 7, _, _ => rfl
 | .st 8, _, _ => rfl
 | .st 9, _, _ => rfl
 | .st 10, h, _ => by cases h
 | .st 11, _, _ => rfl
 | .st 12, h, _ => by cases h
 | .st 13, _, _ => rfl
 | .st 14, _, _ => rfl
 | .st 15, h, _ => by cases h
 | .st 16, _, _ => rfl
 | .st 17, h, _ => by cases h
 | .st 18, h, _ => by cases h
 | .st 19, h, _ => by cases h
 | .st 20, h, _ => by cases h
 | .st 21, h, _ => by cases h
 | .st 22, _, _ => rfl
 | .st 23, _, _ => rfl
 | .st 24, _, _ => rfl
 | .st 25, _, _ => rfl
 | .st (_ + 26), _, _ => rfl
theorem z6r : ∀ t : Ty, z67 t = false → szT t = 1
 | .int _, _ => rfl
 | .bool, _ => rfl
 | .str, _ => rfl
 | .nil, _ => rfl
 | .sl _, _ => rfl
 | .st _, h => by cases h
theorem zg5 : ELaws En where
 sz := z4d
 pos := z6n
 fz := fun t x c hc => z3x (zzw (z78 t x) hc)
 one := z6r
 reify := fun t cs x h => by
  have h' : reify t cs = some x := h; unfold reify at h'; rw [Option.bind_eq_some_iff] at h'; obtain ⟨⟨y, r⟩, h1, h2⟩ := h'; cases r with
  | cons => cases h2
  | nil =>
   cases h2; obtain ⟨p, e, f⟩ := sp t cs _ _ h1; rw [List.append_nil] at e; subst e; exact ⟨f.length.trans (z4d t _), fun j c c' g1 g2 => f.get j c c' g1 g2⟩
 flat := fun t ht x c hc => zys (zzw (z5t t ht x) hc)
 slAgg := fun _ => rfl
 slEnc := fun _ _ => rfl
 ofTo := fun _ _ => rfl
 u8sz := rfl
 u8 := fun x => ⟨x, rfl⟩
 toInts := fun xs i x n h1 h2 => by cases h2; exact h1
 toIntsLen := fun _ => rfl
 ofInts := fun l i n h => ⟨n, h, rfl⟩
 ofIntsLen := fun _ => rfl
theorem zwp {O : List (Nat × Ct U)} {X : List (Nat × Nat)} {J : List (Nat × Amx.Spec U × List Ty)} {pre : List (Nat × List Nat)} {lits ro pk bj : List Nat} : CLaws (zpj O X J pre lits ro pk bj) :=
 z33 zg5 (l := z4j) rfl (by kernel_rfl)
def ctv (ps : List (Md U)) (res outs : List Ty) (fr : List Nat) (ts : List Ty) (f : Fnc U ts (PT U (res ++ outs))) : Ct U := { params := ps, results := res, outs := outs, fresh := fr, fn := app U ts f }
def cvv (res ts : List Ty) (f : Fnc U ts (PT U (res ++ []))) : Ct U := ctv (ts.map .val) res [] [] ts f
def K0 : Ctx U := zpj [] [] [] [] [] [] [] []
@[reducible] def Kq : Type := Kp K0
structure Cf where
 X : List (Nat × Nat) := []
 J : List (Nat × Amx.Spec U × List Ty) := []
 pre : List (Nat × List Nat) := []
 lits : List Nat := []
 ro : List Nat := []
 pk : List Nat := []
 bj : List Nat := []
def cxo (l : List Kq) (c : Cf) : Ctx U := zpj (Osk l) c.X c.J c.pre c.lits c.ro c.pk c.bj
theorem go (l : List Kq) (c : Cf) {f : FuncId} {fn : Func} {ps : List (Md U)} {res outs : List Ty} {fr : List Nat} {ts : List Ty} {F : Fnc U ts (PT U (res ++ outs))} (L : List (Nat × Cut U (PT U ((ctv ps res outs fr ts F).results ++ (ctv ps res outs fr ts F).outs)))) (hf : Proofs.Tryz.prog.funcs[f]? = some fn) (hn : ((fn.name == "runtime.NumGoroutine") || !fn.body.isSome) = false := by kernel_rfl)
 (hok : zu4 (cxo l c) (ctv ps res outs fr ts F) = fun _ => true := by kernel_rfl) (hr : (cur ts (z3a (cxo l c) fn (ctv ps res outs fr ts F) (pick L)) : Fnc U ts (PT U (res ++ outs))) = F := by kernel_rfl) (hL : Ls (cxo l c) fn (ctv ps res outs fr ts F) (pick L) L := by exact trivial) (hX : ∀ p ∈ c.X, z68 Proofs.Tryz.prog p := by exact all_nil) : zh5 K0 f (ctv ps res outs fr ts F) := by
 rw [Bool.or_eq_false_iff] at hn
 exact zh5.ctx (C := cxo l c) (C' := K0) rfl rfl rfl (z19 (C := cxo l c) zwp (z7x (C := cxo l c) (C0 := K0) (l := l) rfl rfl rfl rfl) (zws (l := c.X) rfl hX) hf hn.1 (by simpa using hn.2) (z6t rfl hL) (fun y => congrFun hok y) (z52 hr))
end
end Go.Proofs.YtnpfkhdbmlhfhaaGreatDoor.M
