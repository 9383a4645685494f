/- The program's types, and their cells. -/
import Derived.Test.YtblgefddnnlniaaGreatDoorA4
import Derived.Test.YtblgefddnnlniaaGreatDoorShelf
import Derived.KernelRfl
namespace Go.Proofs.YtblgefddnnlniaaGreatDoor.M
open Go Go.Amx
set_option linter.unusedVariables false
set_option maxRecDepth 100000
noncomputable section
structure zR where
 fields : Int
 types : Int
structure zY where
 x : Int
 y : Int
 signed : Bool
 code : Int
structure zW where
 msg : ByteArray
 addr : Int
structure zI where
 Registers : Int
 yB : Bool
 zZ : Bool
structure Storage where
 Bytes : ByteArray
 Tags : List Bool
structure zL where
 Based : Bool
 Pointer : Int
 Offset : Int
structure DataType where
 Kind : Int
 Length : Int
 Scale : Int
structure Number where
 N : Int
 Scale : Int
structure zC where
 Op : Int
 R : Int
 A : Int
 B : Int
 zO : Int
 Place : zL
 From : zL
 zD : DataType
 Second : DataType
 Half : Bool
 zJ : Bool
 Number : Number
 Text : ByteArray
 Other : ByteArray
 Mask : Int
 Target : Int
 Pointer : Int
 Source : Int
structure zQ where
 From : Int
 To : Int
 Exception : Int
 Handler : Int
structure zF where
 Storage : Storage
 zA : List zC
 zP : List zQ
structure zB where
 Register : Int
 zD : DataType
 Offset : Int
structure zV where
 Facts : List (List zB)
 Index : List Int
structure Optimization where
 Model : zI
 Before : zF
 After : zF
 Proof : zV
structure zX where
 Starts : List Int
structure Value where
 N : Int
 S : ByteArray
structure zH where
 Name : ByteArray
 Kind : Int
 zD : DataType
 Value : Value
 Base : ByteArray
 Offset : Int
 Target : Int
structure zN where
 Op : Int
 Args : List Int
structure zT where
 From : Int
 To : Int
 Exception : Int
 Handler : Int
structure zK where
 zS : List zH
 zA : List zN
 yA : List zT
structure zG where
 zK : zK
 layout : List Int
 code : List zC
structure zU where
 Part : Int
 Index : Int
structure zM where
 R : Bool
 A : Bool
 B : Bool
 Place : Bool
 From : Bool
 Half : Bool
 Number : Bool
 zO : Bool
 Mask : Bool
 Target : Bool
 Text : Bool
 Other : Bool
 Pointer : Bool
 Source : Bool
 zD : Int
 Second : Int
structure Address where
 yC : Int
 Offset : Int
structure Pointer where
 Kind : Int
 Address : Address
 Authority : Int
inductive Ty where
 | int (k : IntKind)
 | bool
 | str
 | nil
 | sl (t : Ty)
 | st (n : Nat)
@[reducible] def z0z : Nat → Type
 | 0 => zR
 | 1 => zY
 | 2 => zW
 | 3 => zI
 | 4 => Storage
 | 5 => zL
 | 6 => DataType
 | 7 => Number
 | 8 => zC
 | 9 => zQ
 | 10 => zF
 | 11 => zB
 | 12 => zV
 | 13 => Optimization
 | 14 => zX
 | 15 => Value
 | 16 => zH
 | 17 => zN
 | 18 => zT
 | 19 => zK
 | 20 => zG
 | 21 => zU
 | 22 => zM
 | 23 => Address
 | 24 => Pointer
 | _ + 25 => Unit
@[reducible] def den : Ty → Type
 | .int _ => Int
 | .bool => Bool
 | .str => ByteArray
 | .nil => Unit
 | .sl t => List (den t)
 | .st n => z0z n
def eqTy : (a b : Ty) → Option (PLift (a = b))
 | .int j, .int k => if h : j = k then some ⟨by rw [h]⟩ else none
 | .bool, .bool => some ⟨rfl⟩
 | .str, .str => some ⟨rfl⟩
 | .nil, .nil => some ⟨rfl⟩
 | .sl a, .sl b => match eqTy a b with
  | some ⟨h⟩ => some ⟨by rw [h]⟩
  | none => none
 | .st i, .st j => if h : i = j then some ⟨by rw [h]⟩ else none
 | _, _ => none
@[reducible] def U : Uni := { Ty := Ty, den := den, eqTy := eqTy }
@[reducible] def T6 : Ty := Ty.int .i64
def w6 (n : Int) : Int := IntKind.wrap .i64 n
@[reducible] def Ty.zR : Ty := .st 0
@[reducible] def Ty.zY : Ty := .st 1
@[reducible] def Ty.zW : Ty := .st 2
@[reducible] def Ty.zI : Ty := .st 3
@[reducible] def Ty.Storage : Ty := .st 4
@[reducible] def Ty.zL : Ty := .st 5
@[reducible] def Ty.DataType : Ty := .st 6
@[reducible] def Ty.Number : Ty := .st 7
@[reducible] def Ty.zC : Ty := .st 8
@[reducible] def Ty.zQ : Ty := .st 9
@[reducible] def Ty.zF : Ty := .st 10
@[reducible] def Ty.zB : Ty := .st 11
@[reducible] def Ty.zV : Ty := .st 12
@[reducible] def Ty.Optimization : Ty := .st 13
@[reducible] def Ty.zX : Ty := .st 14
@[reducible] def Ty.Value : Ty := .st 15
@[reducible] def Ty.zH : Ty := .st 16
@[reducible] def Ty.zN : Ty := .st 17
@[reducible] def Ty.zT : Ty := .st 18
@[reducible] def Ty.zK : Ty := .st 19
@[reducible] def Ty.zG : Ty := .st 20
@[reducible] def Ty.zU : Ty := .st 21
@[reducible] def Ty.zM : Ty := .st 22
@[reducible] def Ty.Address : Ty := .st 23
@[reducible] def Ty.Pointer : Ty := .st 24
def zcq (k : IntKind) : List (AV U) → Option (Int × List (AV U))
 | .sc (.int k' n) :: l => if k = k' then some (n, l) else none
 | _ => none
def zf1 : List (AV U) → Option (Bool × List (AV U))
 | .sc (.bool b) :: l => some (b, l)
 | _ => none
def zpm : List (AV U) → Option (ByteArray × List (AV U))
 | .sc (.string s) :: l => some (s, l)
 | _ => none
def z4y : List (AV U) → Option (Unit × List (AV U))
 | .sc (.slice none 0 0) :: l => some ((), l)
 | _ => none
def rSl (t : Ty) : List (AV U) → Option (List (den t) × List (AV U))
 | .lst t' xs :: l => (U.eqTy t' t).map fun e => (zrr e xs, l)
 | .sc (.slice none 0 0) :: l => some ([], l)
 | _ => none
def zmn (l : List (AV U)) : Option (zR × List (AV U)) := (zcq .i64 l).bind fun x0 => (zcq .i64 x0.2).bind fun x1 => some (⟨x0.1, x1.1⟩, x1.2)
def zje (l : List (AV U)) : Option (zY × List (AV U)) := (zcq .i64 l).bind fun x0 => (zcq .i64 x0.2).bind fun x1 => (zf1 x1.2).bind fun x2 => (zcq .u8 x2.2).bind fun x3 => some (⟨x0.1, x1.1, x2.1, x3.1⟩, x3.2)
def zg0 (l : List (AV U)) : Option (zW × List (AV U)) := (zpm l).bind fun x0 => (zcq .u64 x0.2).bind fun x1 => some (⟨x0.1, x1.1⟩, x1.2)
def zq5 (l : List (AV U)) : Option (zI × List (AV U)) := (zcq .i64 l).bind fun x0 => (zf1 x0.2).bind fun x1 => (zf1 x1.2).bind fun x2 => some (⟨x0.1, x1.1, x2.1⟩, x2.2)
def zq1 (l : List (AV U)) : Option (Storage × List (AV U)) := (zpm l).bind fun x0 => (rSl Ty.bool x0.2).bind fun x1 => some (⟨x0.1, x1.1⟩, x1.2)
def zof (l : List (AV U)) : Option (zL × List (AV U)) := (zf1 l).bind fun x0 => (zcq .i64 x0.2).bind fun x1 => (zcq .i64 x1.2).bind fun x2 => some (⟨x0.1, x1.1, x2.1⟩, x2.2)
def zkc (l : List (AV U)) : Option (DataType × List (AV U)) := (zcq .i64 l).bind fun x0 => (zcq .i64 x0.2).bind fun x1 => (zcq .i64 x1.2).bind fun x2 => some (⟨x0.1, x1.1, x2.1⟩, x2.2)
def zs5 (l : List (AV U)) : Option (Number × List (AV U)) := (zcq .i64 l).bind fun x0 => (zcq .i64 x0.2).bind fun x1 => some (⟨x0.1, x1.1⟩, x1.2)
def zmq (l : List (AV U)) : Option (zC × List (AV U)) := (zcq .i64 l).bind fun x0 => (zcq .i64 x0.2).bind fun x1 => (zcq .i64 x1.2).bind fun x2 => (zcq .i64 x2.2).bind fun x3 => (zcq .i64 x3.2).bind fun x4 => (zof x4.2).bind fun x5 => (zof x5.2).bind fun x6 => (zkc x6.2).bind fun x7 => (zkc x7.2).bind fun x8 => (zf1 x8.2).bind fun x9 => (zf1 x9.2).bind fun x10 => (zs5 x10.2).bind fun x11 => (zpm x11.2).bind fun x12 => (zpm x12.2).bind fun x13 => (zcq .i64 x13.2).bind fun x14 => (zcq .i64 x14.2).bind fun x15 => (zcq .i64 x15.2).bind fun x16 => (zcq .i64 x16.2).bind fun x17 => some (⟨x0.1, x1.1, x2.1, x3.1, x4.1, x5.1, x6.1, x7.1, x8.1, x9.1, x10.1, x11.1, x12.1, x13.1, x14.1, x15.1, x16.1, x17.1⟩, x17.2)
def zv6 (l : List (AV U)) : Option (zQ × List (AV U)) := (zcq .i64 l).bind fun x0 => (zcq .i64 x0.2).bind fun x1 => (zcq .i64 x1.2).bind fun x2 => (zcq .i64 x2.2).bind fun x3 => some (⟨x0.1, x1.1, x2.1, x3.1⟩, x3.2)
def zp5 (l : List (AV U)) : Option (zF × List (AV U)) := (zq1 l).bind fun x0 => (rSl Ty.zC x0.2).bind fun x1 => (rSl Ty.zQ x1.2).bind fun x2 => some (⟨x0.1, x1.1, x2.1⟩, x2.2)
def zv7 (l : List (AV U)) : Option (zB × List (AV U)) := (zcq .i64 l).bind fun x0 => (zkc x0.2).bind fun x1 => (zcq .i64 x1.2).bind fun x2 => some (⟨x0.1, x1.1, x2.1⟩, x2.2)
def zq4 (l : List (AV U)) : Option (zV × List (AV U)) := (rSl (Ty.sl Ty.zB) l).bind fun x0 => (rSl (Ty.int .i64) x0.2).bind fun x1 => some (⟨x0.1, x1.1⟩, x1.2)
def znj (l : List (AV U)) : Option (Optimization × List (AV U)) := (zq5 l).bind fun x0 => (zp5 x0.2).bind fun x1 => (zp5 x1.2).bind fun x2 => (zq4 x2.2).bind fun x3 => some (⟨x0.1, x1.1, x2.1, x3.1⟩, x3.2)
def zx9 (l : List (AV U)) : Option (zX × List (AV U)) := (rSl (Ty.int .i64) l).bind fun x0 => some (⟨x0.1⟩, x0.2)
def zvd (l : List (AV U)) : Option (Value × List (AV U)) := (zcq .i64 l).bind fun x0 => (zpm x0.2).bind fun x1 => some (⟨x0.1, x1.1⟩, x1.2)
def zq2 (l : List (AV U)) : Option (zH × List (AV U)) := (zpm l).bind fun x0 => (zcq .i64 x0.2).bind fun x1 => (zkc x1.2).bind fun x2 => (zvd x2.2).bind fun x3 => (zpm x3.2).bind fun x4 => (zcq .i64 x4.2).bind fun x5 => (zcq .i64 x5.2).bind fun x6 => some (⟨x0.1, x1.1, x2.1, x3.1, x4.1, x5.1, x6.1⟩, x6.2)
def zmp (l : List (AV U)) : Option (zN × List (AV U)) := (zcq .i64 l).bind fun x0 => (rSl (Ty.int .i64) x0.2).bind fun x1 => some (⟨x0.1, x1.1⟩, x1.2)
def zq3 (l : List (AV U)) : Option (zT × List (AV U)) := (zcq .i64 l).bind fun x0 => (zcq .i64 x0.2).bind fun x1 => (zcq .i64 x1.2).bind fun x2 => (zcq .i64 x2.2).bind fun x3 => some (⟨x0.1, x1.1, x2.1, x3.1⟩, x3.2)
def znr (l : List (AV U)) : Option (zK × List (AV U)) := (rSl Ty.zH l).bind fun x0 => (rSl Ty.zN x0.2).bind fun x1 => (rSl Ty.zT x1.2).bind fun x2 => some (⟨x0.1, x1.1, x2.1⟩, x2.2)
def zi1 (l : List (AV U)) : Option (zG × List (AV U)) := (znr l).bind fun x0 => (rSl (Ty.int .i64) x0.2).bind fun x1 => (rSl Ty.zC x1.2).bind fun x2 => some (⟨x0.1, x1.1, x2.1⟩, x2.2)
def zuf (l : List (AV U)) : Option (zU × List (AV U)) := (zcq .i64 l).bind fun x0 => (zcq .i64 x0.2).bind fun x1 => some (⟨x0.1, x1.1⟩, x1.2)
def zni (l : List (AV U)) : Option (zM × List (AV U)) := (zf1 l).bind fun x0 => (zf1 x0.2).bind fun x1 => (zf1 x1.2).bind fun x2 => (zf1 x2.2).bind fun x3 => (zf1 x3.2).bind fun x4 => (zf1 x4.2).bind fun x5 => (zf1 x5.2).bind fun x6 => (zf1 x6.2).bind fun x7 => (zf1 x7.2).bind fun x8 => (zf1 x8.2).bind fun x9 => (zf1 x9.2).bind fun x10 => (zf1 x10.2).bind fun x11 => (zf1 x11.2).bind fun x12 => (zf1 x12.2).bind fun x13 => (zcq .i64 x13.2).bind fun x14 => (zcq .i64 x14.2).bind fun x15 => some (⟨x0.1, x1.1, x2.1, x3.1, x4.1, x5.1, x6.1, x7.1, x8.1, x9.1, x10.1, x11.1, x12.1, x13.1, x14.1, x15.1⟩, x15.2)
def zq6 (l : List (AV U)) : Option (Address × List (AV U)) := (zcq .i64 l).bind fun x0 => (zcq .i64 x0.2).bind fun x1 => some (⟨x0.1, x1.1⟩, x1.2)
def zue (l : List (AV U)) : Option (Pointer × List (AV U)) := (zcq .i64 l).bind fun x0 => (zq6 x0.2).bind fun x1 => (zcq .i64 x1.2).bind fun x2 => some (⟨x0.1, x1.1, x2.1⟩, x2.2)
def zqc (x : zR) : List (AV U) := [.sc (.int .i64 x.fields), .sc (.int .i64 x.types)]
def zmc (x : zY) : List (AV U) := [.sc (.int .i64 x.x), .sc (.int .i64 x.y), .sc (.bool x.signed), .sc (.int .u8 x.code)]
def zjb (x : zW) : List (AV U) := [.sc (.string x.msg), .sc (.int .u64 x.addr)]
def zy3 (x : zI) : List (AV U) := [.sc (.int .i64 x.Registers), .sc (.bool x.yB), .sc (.bool x.zZ)]
def zyy (x : Storage) : List (AV U) := [.sc (.string x.Bytes), .lst Ty.bool x.Tags]
def zy2 (x : zL) : List (AV U) := [.sc (.bool x.Based), .sc (.int .i64 x.Pointer), .sc (.int .i64 x.Offset)]
def zw0 (x : DataType) : List (AV U) := [.sc (.int .i64 x.Kind), .sc (.int .i64 x.Length), .sc (.int .i64 x.Scale)]
def z0h (x : Number) : List (AV U) := [.sc (.int .i64 x.N), .sc (.int .i64 x.Scale)]
def zdx (x : zC) : List (AV U) := [.sc (.int .i64 x.Op), .sc (.int .i64 x.R), .sc (.int .i64 x.A), .sc (.int .i64 x.B), .sc (.int .i64 x.zO), .sc (.bool x.Place.Based), .sc (.int .i64 x.Place.Pointer), .sc (.int .i64 x.Place.Offset), .sc (.bool x.From.Based), .sc (.int .i64 x.From.Pointer), .sc (.int .i64 x.From.Offset), .sc (.int .i64 x.zD.Kind), .sc (.int .i64 x.zD.Length), .sc (.int .i64 x.zD.Scale), .sc (.int .i64 x.Second.Kind), .sc (.int .i64 x.Second.Length), .sc (.int .i64 x.Second.Scale), .sc (.bool x.Half), .sc (.bool x.zJ), .sc (.int .i64 x.Number.N), .sc (.int .i64 x.Number.Scale), .sc (.string x.Text), .sc (.string x.Other), .sc (.int .i64 x.Mask), .sc (.int .i64 x.Target), .sc (.int .i64 x.Pointer), .sc (.int .i64 x.Source)]
def zn6 (x : zQ) : List (AV U) := [.sc (.int .i64 x.From), .sc (.int .i64 x.To), .sc (.int .i64 x.Exception), .sc (.int .i64 x.Handler)]
def zff (x : zF) : List (AV U) := [.sc (.string x.Storage.Bytes), .lst Ty.bool x.Storage.Tags, .lst Ty.zC x.zA, .lst Ty.zQ x.zP]
def zqf (x : zB) : List (AV U) := [.sc (.int .i64 x.Register), .sc (.int .i64 x.zD.Kind), .sc (.int .i64 x.zD.Length), .sc (.int .i64 x.zD.Scale), .sc (.int .i64 x.Offset)]
def zy1 (x : zV) : List (AV U) := [.lst (Ty.sl Ty.zB) x.Facts, .lst (Ty.int .i64) x.Index]
def zry (x : Optimization) : List (AV U) := [.sc (.int .i64 x.Model.Registers), .sc (.bool x.Model.yB), .sc (.bool x.Model.zZ), .sc (.string x.Before.Storage.Bytes), .lst Ty.bool x.Before.Storage.Tags, .lst Ty.zC x.Before.zA, .lst Ty.zQ x.Before.zP, .sc (.string x.After.Storage.Bytes), .lst Ty.bool x.After.Storage.Tags, .lst Ty.zC x.After.zA, .lst Ty.zQ x.After.zP, .lst (Ty.sl Ty.zB) x.Proof.Facts, .lst (Ty.int .i64) x.Proof.Index]
def z3u (x : zX) : List (AV U) := [.lst (Ty.int .i64) x.Starts]
def z3t (x : Value) : List (AV U) := [.sc (.int .i64 x.N), .sc (.string x.S)]
def zvr (x : zH) : List (AV U) := [.sc (.string x.Name), .sc (.int .i64 x.Kind), .sc (.int .i64 x.zD.Kind), .sc (.int .i64 x.zD.Length), .sc (.int .i64 x.zD.Scale), .sc (.int .i64 x.Value.N), .sc (.string x.Value.S), .sc (.string x.Base), .sc (.int .i64 x.Offset), .sc (.int .i64 x.Target)]
def zqe (x : zN) : List (AV U) := [.sc (.int .i64 x.Op), .lst (Ty.int .i64) x.Args]
def zvs (x : zT) : List (AV U) := [.sc (.int .i64 x.From), .sc (.int .i64 x.To), .sc (.int .i64 x.Exception), .sc (.int .i64 x.Handler)]
def zvq (x : zK) : List (AV U) := [.lst Ty.zH x.zS, .lst Ty.zN x.zA, .lst Ty.zT x.yA]
def zlq (x : zG) : List (AV U) := [.lst Ty.zH x.zK.zS, .lst Ty.zN x.zK.zA, .lst Ty.zT x.zK.yA, .lst (Ty.int .i64) x.layout, .lst Ty.zC x.code]
def zy0 (x : zU) : List (AV U) := [.sc (.int .i64 x.Part), .sc (.int .i64 x.Index)]
def zrx (x : zM) : List (AV U) := [.sc (.bool x.R), .sc (.bool x.A), .sc (.bool x.B), .sc (.bool x.Place), .sc (.bool x.From), .sc (.bool x.Half), .sc (.bool x.Number), .sc (.bool x.zO), .sc (.bool x.Mask), .sc (.bool x.Target), .sc (.bool x.Text), .sc (.bool x.Other), .sc (.bool x.Pointer), .sc (.bool x.Source), .sc (.int .i64 x.zD), .sc (.int .i64 x.Second)]
def zy4 (x : Address) : List (AV U) := [.sc (.int .i64 x.yC), .sc (.int .i64 x.Offset)]
def zyz (x : Pointer) : List (AV U) := [.sc (.int .i64 x.Kind), .sc (.int .i64 x.Address.yC), .sc (.int .i64 x.Address.Offset), .sc (.int .i64 x.Authority)]
def z9w : (n : Nat) → z0z n → List (AV U)
 | 0, x => zqc x
 | 1, x => zmc x
 | 2, x => zjb x
 | 3, x => zy3 x
 | 4, x => zyy x
 | 5, x => zy2 x
 | 6, x => zw0 x
 | 7, x => z0h x
 | 8, x => zdx x
 | 9, x => zn6 x
 | 10, x => zff x
 | 11, x => zqf x
 | 12, x => zy1 x
 | 13, x => zry x
 | 14, x => z3u x
 | 15, x => z3t x
 | 16, x => zvr x
 | 17, x => zqe x
 | 18, x => zvs x
 | 19, x => zvq x
 | 20, x => zlq x
 | 21, x => zy0 x
 | 22, x => zrx x
 | 23, x => zy4 x
 | 24, x => zyz x
 | _ + 25, _ => [.sc (.bool true)]
def z91 : (n : Nat) → List (AV U) → Option (z0z n × List (AV U))
 | 0, l => zmn l
 | 1, l => zje l
 | 2, l => zg0 l
 | 3, l => zq5 l
 | 4, l => zq1 l
 | 5, l => zof l
 | 6, l => zkc l
 | 7, l => zs5 l
 | 8, l => zmq l
 | 9, l => zv6 l
 | 10, l => zp5 l
 | 11, l => zv7 l
 | 12, l => zq4 l
 | 13, l => znj l
 | 14, l => zx9 l
 | 15, l => zvd l
 | 16, l => zq2 l
 | 17, l => zmp l
 | 18, l => zq3 l
 | 19, l => znr l
 | 20, l => zi1 l
 | 21, l => zuf l
 | 22, l => zni l
 | 23, l => zq6 l
 | 24, l => zue l
 | _ + 25, _ => none
def enc : (t : Ty) → den t → List (AV U)
 | .int k, n => [.sc (.int k n)]
 | .bool, b => [.sc (.bool b)]
 | .str, s => [.sc (.string s)]
 | .nil, _ => [.sc (.slice none 0 0)]
 | .sl t, xs => [.lst t xs]
 | .st n, x => z9w n x
def rd : (t : Ty) → List (AV U) → Option (den t × List (AV U))
 | .int k, l => zcq k l
 | .bool, l => zf1 l
 | .str, l => zpm l
 | .nil, l => z4y l
 | .sl t, l => rSl t l
 | .st n, l => z91 n l
def reify (t : Ty) (l : List (AV U)) : Option (den t) := (rd t l).bind fun r => match r.2 with
 | [] => some r.1
 | _ => none
def z90 : Nat → Nat
 | 0 => 2
 | 1 => 4
 | 2 => 2
 | 3 => 3
 | 4 => 2
 | 5 => 3
 | 6 => 3
 | 7 => 2
 | 8 => 27
 | 9 => 4
 | 10 => 4
 | 11 => 5
 | 12 => 2
 | 13 => 13
 | 14 => 1
 | 15 => 2
 | 16 => 10
 | 17 => 2
 | 18 => 4
 | 19 => 3
 | 20 => 5
 | 21 => 2
 | 22 => 16
 | 23 => 2
 | 24 => 4
 | _ + 25 => 1
def z8w : Nat → Bool
 | 0 => true
 | 1 => true
 | 2 => true
 | 3 => true
 | 4 => false
 | 5 => true
 | 6 => true
 | 7 => true
 | 8 => true
 | 9 => true
 | 10 => false
 | 11 => true
 | 12 => false
 | 13 => false
 | 14 => false
 | 15 => true
 | 16 => true
 | 17 => false
 | 18 => true
 | 19 => false
 | 20 => false
 | 21 => true
 | 22 => true
 | 23 => true
 | 24 => true
 | _ + 25 => true
def szT : Ty → Nat
 | .st n => z90 n
 | _ => 1
def z83 : Ty → Bool
 | .st _ => true
 | _ => false
def z51 : Ty → Bool
 | .sl _ => false
 | .st n => z8w n
 | _ => true
def z5w : List (Nat × Ty) := [(2, (Ty.int .i64)), (3, (Ty.int .i64)), (4, Ty.bool), (5, (Ty.int .u8)), (6, (Ty.int .u8)), (8, Ty.zY), (9, Ty.str), (10, Ty.str), (11, Ty.str), (12, (Ty.int .u64)), (14, Ty.zW), (21, (Ty.int .i32)), (23, Ty.zI), (24, (Ty.sl Ty.bool)), (26, Ty.Storage), (27, (Ty.sl Ty.zC)), (28, (Ty.sl Ty.zQ)), (30, Ty.zF), (33, (Ty.sl (Ty.sl Ty.zB))), (34, (Ty.int .i64)), (43, (Ty.sl (Ty.int .i64))), (45, Ty.zV), (51, Ty.Optimization), (60, (Ty.sl (Ty.sl (Ty.int .i64)))), (67, Ty.zX), (70, (Ty.sl Ty.zH)), (71, (Ty.sl Ty.zN)), (72, (Ty.sl Ty.zT)), (74, Ty.zK), (77, Ty.zL), (79, Ty.DataType), (81, Ty.Number), (83, Ty.zC), (88, (Ty.sl Ty.zB)), (97, Ty.zB), (110, Ty.zQ), (125, (Ty.sl (Ty.sl Ty.bool))), (135, Ty.zG), (137, Ty.zN), (142, Ty.Value), (144, Ty.zH), (157, (Ty.sl (Ty.int .i64))), (161, (Ty.sl (Ty.int .u8))), (163, Ty.zU), (175, Ty.zT), (183, Ty.zM), (213, Ty.Address), (215, Ty.Pointer), (221, Ty.zR), (238, (Ty.int .u64)), (269, (Ty.int .u32)), (272, (Ty.int .u64)), (278, (Ty.int .i64)), (290, (Ty.int .u64)), (302, (Ty.int .u8)), (303, (Ty.int .u8)), (305, (Ty.int .i32)), (306, (Ty.int .i32))]
def En : Enc U := { sz := szT, agg := z83, flat := z51, enc := enc, reify := reify, ofGo := pick z5w, sl := Ty.sl, toSl := fun _ xs => xs, ofSl := fun _ xs => xs, u8 := .int .u8, ofInts := fun l => l, toInts := fun l => l }
def z1m : List (List Int) := [[0, 4], [2, 3], [2, 3, 3], [2, 3, 3], [2, 3, 3], [2, 3, 3], [2, 3, 3], [1, 4, 6], [1, 4, 6], [6], [5, 0], [5, 5], [5, 3], [6], [], [3], [2], [1], []]
def z1n : List zR := [⟨41, 1⟩, ⟨169, 1⟩, ⟨257, 0⟩, ⟨3, 0⟩, ⟨32807, 1⟩, ⟨6, 0⟩, ⟨6144, 0⟩, ⟨6150, 0⟩, ⟨4096, 0⟩, ⟨120, 2⟩, ⟨552, 2⟩, ⟨120, 2⟩, ⟨552, 2⟩, ⟨1536, 0⟩, ⟨8232, 3⟩, ⟨24576, 0⟩, ⟨8193, 0⟩, ⟨8192, 0⟩, ⟨4096, 0⟩, ⟨0, 0⟩, ⟨1, 0⟩, ⟨1, 0⟩, ⟨1, 0⟩, ⟨40, 2⟩, ⟨512, 0⟩, ⟨0, 0⟩, ⟨0, 0⟩]
def globs : List (Nat × AV U) := [(0, .rarr (Ty.sl (Ty.int .i64)) z1m), (1, .rarr Ty.zR z1n)]
def zps (O : List (Nat × Ct U)) (X : List (Nat × Nat)) (J : List (Nat × Amx.Spec U × List Ty)) (pre : List (Nat × List Nat)) (lits ro pk bj : List Nat) : Ctx U :=
 { P := Proofs.Tryz.prog, En := En, G := pick globs, O := pick O, X := pick X, joins := pick J, pre := fun r => (pick pre r).getD [], lits := lits, ro := ro, pk := pk, bj := bj }
theorem za4 (k : IntKind) : Sp (U := U) (zcq k) (fun n : Int => [.sc (.int k n)]) := fun l x r h => by
 unfold zcq at h
 split at h
 · split at h
   · rename_i e; cases h; subst e; exact ⟨[_], rfl, F2.refl_ref _⟩
   · cases h
 · cases h
theorem zed : Sp (U := U) zf1 (fun b : Bool => [.sc (.bool b)]) := fun l x r h => by
 unfold zf1 at h
 split at h
 · cases h; exact ⟨[_], rfl, F2.refl_ref _⟩
 · cases h
theorem zm9 : Sp (U := U) zpm (fun s : ByteArray => [.sc (.string s)]) := fun l x r h => by
 unfold zpm at h
 split at h
 · cases h; exact ⟨[_], rfl, F2.refl_ref _⟩
 · cases h
theorem z75 : Sp (U := U) z4y (fun _ : Unit => [.sc (.slice none 0 0)]) := fun l x r h => by
 unfold z4y at h
 split at h
 · cases h; exact ⟨[_], rfl, F2.refl_ref _⟩
 · cases h
theorem zkl (t : Ty) : Sp (U := U) (rSl t) (fun xs : List (den t) => [.lst t xs]) := fun l x r h => by
 unfold rSl at h
 split at h
 · rw [Option.map_eq_some_iff] at h; obtain ⟨⟨e⟩, _, h2⟩ := h; cases e; cases h2; exact ⟨[_], rfl, F2.refl_ref _⟩
 · cases h; exact ⟨[_], rfl, .cons (.inr ⟨rfl, _, rfl⟩) .nil⟩
 · cases h
theorem zt3 : Sp (U := U) zmn zqc := fun l x r h => by
 unfold zmn at h
 obtain ⟨x0, r0, p0, e0, f0, h⟩ := (za4 .i64).step h
 obtain ⟨x1, r1, p1, (e1 : r0 = p1 ++ r1), f1, h⟩ := (za4 .i64).step h
 cases h
 exact ⟨(p0 ++ p1), by rw [e0, e1]; simp only [List.append_assoc], (f0.append f1)⟩
theorem zpi : Sp (U := U) zje zmc := fun l x r h => by
 unfold zje at h
 obtain ⟨x0, r0, p0, e0, f0, h⟩ := (za4 .i64).step h
 obtain ⟨x1, r1, p1, (e1 : r0 = p1 ++ r1), f1, h⟩ := (za4 .i64).step h
 obtain ⟨x2, r2, p2, (e2 : r1 = p2 ++ r2), f2, h⟩ := zed.step h
 obtain ⟨x3, r3, p3, (e3 : r2 = p3 ++ r3), f3, h⟩ := (za4 .u8).step h
 cases h
 exact ⟨(p0 ++ (p1 ++ (p2 ++ p3))), by rw [e0, e1, e2, e3]; simp only [List.append_assoc], (f0.append (f1.append (f2.append f3)))⟩
theorem zmh : Sp (U := U) zg0 zjb := fun l x r h => by
 unfold zg0 at h
 obtain ⟨x0, r0, p0, e0, f0, h⟩ := zm9.step h
 obtain ⟨x1, r1, p1, (e1 : r0 = p1 ++ r1), f1, h⟩ := (za4 .u64).step h
 cases h
 exact ⟨(p0 ++ p1), by rw [e0, e1]; simp only [List.append_assoc], (f0.append f1)⟩
theorem zu1 : Sp (U := U) zq5 zy3 := fun l x r h => by
 unfold zq5 at h
 obtain ⟨x0, r0, p0, e0, f0, h⟩ := (za4 .i64).step h
 obtain ⟨x1, r1, p1, (e1 : r0 = p1 ++ r1), f1, h⟩ := zed.step h
 obtain ⟨x2, r2, p2, (e2 : r1 = p2 ++ r2), f2, h⟩ := zed.step h
 cases h
 exact ⟨(p0 ++ (p1 ++ p2)), by rw [e0, e1, e2]; simp only [List.append_assoc], (f0.append (f1.append f2))⟩
theorem zuy : Sp (U := U) zq1 zyy := fun l x r h => by
 unfold zq1 at h
 obtain ⟨x0, r0, p0, e0, f0, h⟩ := zm9.step h
 obtain ⟨x1, r1, p1, (e1 : r0 = p1 ++ r1), f1, h⟩ := (zkl Ty.bool).step h
 cases h
 exact ⟨(p0 ++ p1), by rw [e0, e1]; simp only [List.append_assoc], (f0.append f1)⟩
theorem zqt : Sp (U := U) zof zy2 := fun l x r h => by
 unfold zof at h
 obtain ⟨x0, r0, p0, e0, f0, h⟩ := zed.step h
 obtain ⟨x1, r1, p1, (e1 : r0 = p1 ++ r1), f1, h⟩ := (za4 .i64).step h
 obtain ⟨x2, r2, p2, (e2 : r1 = p2 ++ r2), f2, h⟩ := (za4 .i64).step h
 cases h
 exact ⟨(p0 ++ (p1 ++ p2)), by rw [e0, e1, e2]; simp only [List.append_assoc], (f0.append (f1.append f2))⟩
theorem zkz : Sp (U := U) zkc zw0 := fun l x r h => by
 unfold zkc at h
 obtain ⟨x0, r0, p0, e0, f0, h⟩ := (za4 .i64).step h
 obtain ⟨x1, r1, p1, (e1 : r0 = p1 ++ r1), f1, h⟩ := (za4 .i64).step h
 obtain ⟨x2, r2, p2, (e2 : r1 = p2 ++ r2), f2, h⟩ := (za4 .i64).step h
 cases h
 exact ⟨(p0 ++ (p1 ++ p2)), by rw [e0, e1, e2]; simp only [List.append_assoc], (f0.append (f1.append f2))⟩
theorem zwq : Sp (U := U) zs5 z0h := fun l x r h => by
 unfold zs5 at h
 obtain ⟨x0, r0, p0, e0, f0, h⟩ := (za4 .i64).step h
 obtain ⟨x1, r1, p1, (e1 : r0 = p1 ++ r1), f1, h⟩ := (za4 .i64).step h
 cases h
 exact ⟨(p0 ++ p1), by rw [e0, e1]; simp only [List.append_assoc], (f0.append f1)⟩
theorem zt5 : Sp (U := U) zmq zdx := fun l x r h => by
 unfold zmq at h
 obtain ⟨x0, r0, p0, e0, f0, h⟩ := (za4 .i64).step h
 obtain ⟨x1, r1, p1, (e1 : r0 = p1 ++ r1), f1, h⟩ := (za4 .i64).step h
 obtain ⟨x2, r2, p2, (e2 : r1 = p2 ++ r2), f2, h⟩ := (za4 .i64).step h
 obtain ⟨x3, r3, p3, (e3 : r2 = p3 ++ r3), f3, h⟩ := (za4 .i64).step h
 obtain ⟨x4, r4, p4, (e4 : r3 = p4 ++ r4), f4, h⟩ := (za4 .i64).step h
 obtain ⟨x5, r5, p5, (e5 : r4 = p5 ++ r5), f5, h⟩ := zqt.step h
 obtain ⟨x6, r6, p6, (e6 : r5 = p6 ++ r6), f6, h⟩ := zqt.step h
 obtain ⟨x7, r7, p7, (e7 : r6 = p7 ++ r7), f7, h⟩ := zkz.step h
 obtain ⟨x8, r8, p8, (e8 : r7 = p8 ++ r8), f8, h⟩ := zkz.step h
 obtain ⟨x9, r9, p9, (e9 : r8 = p9 ++ r9), f9, h⟩ := zed.step h
 obtain ⟨x10, r10, p10, (e10 : r9 = p10 ++ r10), f10, h⟩ := zed.step h
 obtain ⟨x11, r11, p11, (e11 : r10 = p11 ++ r11), f11, h⟩ := zwq.step h
 obtain ⟨x12, r12, p12, (e12 : r11 = p12 ++ r12), f12, h⟩ := zm9.step h
 obtain ⟨x13, r13, p13, (e13 : r12 = p13 ++ r13), f13, h⟩ := zm9.step h
 obtain ⟨x14, r14, p14, (e14 : r13 = p14 ++ r14), f14, h⟩ := (za4 .i64).step h
 obtain ⟨x15, r15, p15, (e15 : r14 = p15 ++ r15), f15, h⟩ := (za4 .i64).step h
 obtain ⟨x16, r16, p16, (e16 : r15 = p16 ++ r16), f16, h⟩ := (za4 .i64).step h
 obtain ⟨x17, r17, p17, (e17 : r16 = p17 ++ r17), f17, h⟩ := (za4 .i64).step h
 cases h
 exact ⟨(p0 ++ (p1 ++ (p2 ++ (p3 ++ (p4 ++ (p5 ++ (p6 ++ (p7 ++ (p8 ++ (p9 ++ (p10 ++ (p11 ++ (p12 ++ (p13 ++ (p14 ++ (p15 ++ (p16 ++ p17))))))))))))))))), by rw [e0, e1, e2, e3, e4, e5, e6, e7, e8, e9, e10, e11, e12, e13, e14, e15, e16, e17]; simp only [List.append_assoc], (f0.append (f1.append (f2.append (f3.append (f4.append (f5.append (f6.append (f7.append (f8.append (f9.append (f10.append (f11.append (f12.append (f13.append (f14.append (f15.append (f16.append f17)))))))))))))))))⟩
theorem z2i : Sp (U := U) zv6 zn6 := fun l x r h => by
 unfold zv6 at h
 obtain ⟨x0, r0, p0, e0, f0, h⟩ := (za4 .i64).step h
 obtain ⟨x1, r1, p1, (e1 : r0 = p1 ++ r1), f1, h⟩ := (za4 .i64).step h
 obtain ⟨x2, r2, p2, (e2 : r1 = p2 ++ r2), f2, h⟩ := (za4 .i64).step h
 obtain ⟨x3, r3, p3, (e3 : r2 = p3 ++ r3), f3, h⟩ := (za4 .i64).step h
 cases h
 exact ⟨(p0 ++ (p1 ++ (p2 ++ p3))), by rw [e0, e1, e2, e3]; simp only [List.append_assoc], (f0.append (f1.append (f2.append f3)))⟩
theorem zr5 : Sp (U := U) zp5 zff := fun l x r h => by
 unfold zp5 at h
 obtain ⟨x0, r0, p0, e0, f0, h⟩ := zuy.step h
 obtain ⟨x1, r1, p1, (e1 : r0 = p1 ++ r1), f1, h⟩ := (zkl Ty.zC).step h
 obtain ⟨x2, r2, p2, (e2 : r1 = p2 ++ r2), f2, h⟩ := (zkl Ty.zQ).step h
 cases h
 exact ⟨(p0 ++ (p1 ++ p2)), by rw [e0, e1, e2]; simp only [List.append_assoc], (f0.append (f1.append f2))⟩
theorem z2j : Sp (U := U) zv7 zqf := fun l x r h => by
 unfold zv7 at h
 obtain ⟨x0, r0, p0, e0, f0, h⟩ := (za4 .i64).step h
 obtain ⟨x1, r1, p1, (e1 : r0 = p1 ++ r1), f1, h⟩ := zkz.step h
 obtain ⟨x2, r2, p2, (e2 : r1 = p2 ++ r2), f2, h⟩ := (za4 .i64).step h
 cases h
 exact ⟨(p0 ++ (p1 ++ p2)), by rw [e0, e1, e2]; simp only [List.append_assoc], (f0.append (f1.append f2))⟩
theorem zu0 : Sp (U := U) zq4 zy1 := fun l x r h => by
 unfold zq4 at h
 obtain ⟨x0, r0, p0, e0, f0, h⟩ := (zkl (Ty.sl Ty.zB)).step h
 obtain ⟨x1, r1, p1, (e1 : r0 = p1 ++ r1), f1, h⟩ := (zkl (Ty.int .i64)).step h
 cases h
 exact ⟨(p0 ++ p1), by rw [e0, e1]; simp only [List.append_assoc], (f0.append f1)⟩
theorem zuz : Sp (U := U) znj zry := fun l x r h => by
 unfold znj at h
 obtain ⟨x0, r0, p0, e0, f0, h⟩ := zu1.step h
 obtain ⟨x1, r1, p1, (e1 : r0 = p1 ++ r1), f1, h⟩ := zr5.step h
 obtain ⟨x2, r2, p2, (e2 : r1 = p2 ++ r2), f2, h⟩ := zr5.step h
 obtain ⟨x3, r3, p3, (e3 : r2 = p3 ++ r3), f3, h⟩ := zu0.step h
 cases h
 exact ⟨(p0 ++ (p1 ++ (p2 ++ p3))), by rw [e0, e1, e2, e3]; simp only [List.append_assoc], (f0.append (f1.append (f2.append f3)))⟩
theorem z4j : Sp (U := U) zx9 z3u := fun l x r h => by
 unfold zx9 at h
 obtain ⟨x0, r0, p0, e0, f0, h⟩ := (zkl (Ty.int .i64)).step h
 cases h
 exact ⟨p0, by rw [e0], f0⟩
theorem zxq : Sp (U := U) zvd z3t := fun l x r h => by
 unfold zvd at h
 obtain ⟨x0, r0, p0, e0, f0, h⟩ := (za4 .i64).step h
 obtain ⟨x1, r1, p1, (e1 : r0 = p1 ++ r1), f1, h⟩ := zm9.step h
 cases h
 exact ⟨(p0 ++ p1), by rw [e0, e1]; simp only [List.append_assoc], (f0.append f1)⟩
theorem zxr : Sp (U := U) zq2 zvr := fun l x r h => by
 unfold zq2 at h
 obtain ⟨x0, r0, p0, e0, f0, h⟩ := zm9.step h
 obtain ⟨x1, r1, p1, (e1 : r0 = p1 ++ r1), f1, h⟩ := (za4 .i64).step h
 obtain ⟨x2, r2, p2, (e2 : r1 = p2 ++ r2), f2, h⟩ := zkz.step h
 obtain ⟨x3, r3, p3, (e3 : r2 = p3 ++ r3), f3, h⟩ := zxq.step h
 obtain ⟨x4, r4, p4, (e4 : r3 = p4 ++ r4), f4, h⟩ := zm9.step h
 obtain ⟨x5, r5, p5, (e5 : r4 = p5 ++ r5), f5, h⟩ := (za4 .i64).step h
 obtain ⟨x6, r6, p6, (e6 : r5 = p6 ++ r6), f6, h⟩ := (za4 .i64).step h
 cases h
 exact ⟨(p0 ++ (p1 ++ (p2 ++ (p3 ++ (p4 ++ (p5 ++ p6)))))), by rw [e0, e1, e2, e3, e4, e5, e6]; simp only [List.append_assoc], (f0.append (f1.append (f2.append (f3.append (f4.append (f5.append f6))))))⟩
theorem zt4 : Sp (U := U) zmp zqe := fun l x r h => by
 unfold zmp at h
 obtain ⟨x0, r0, p0, e0, f0, h⟩ := (za4 .i64).step h
 obtain ⟨x1, r1, p1, (e1 : r0 = p1 ++ r1), f1, h⟩ := (zkl (Ty.int .i64)).step h
 cases h
 exact ⟨(p0 ++ p1), by rw [e0, e1]; simp only [List.append_assoc], (f0.append f1)⟩
theorem zxs : Sp (U := U) zq3 zvs := fun l x r h => by
 unfold zq3 at h
 obtain ⟨x0, r0, p0, e0, f0, h⟩ := (za4 .i64).step h
 obtain ⟨x1, r1, p1, (e1 : r0 = p1 ++ r1), f1, h⟩ := (za4 .i64).step h
 obtain ⟨x2, r2, p2, (e2 : r1 = p2 ++ r2), f2, h⟩ := (za4 .i64).step h
 obtain ⟨x3, r3, p3, (e3 : r2 = p3 ++ r3), f3, h⟩ := (za4 .i64).step h
 cases h
 exact ⟨(p0 ++ (p1 ++ (p2 ++ p3))), by rw [e0, e1, e2, e3]; simp only [List.append_assoc], (f0.append (f1.append (f2.append f3)))⟩
theorem zr4 : Sp (U := U) znr zvq := fun l x r h => by
 unfold znr at h
 obtain ⟨x0, r0, p0, e0, f0, h⟩ := (zkl Ty.zH).step h
 obtain ⟨x1, r1, p1, (e1 : r0 = p1 ++ r1), f1, h⟩ := (zkl Ty.zN).step h
 obtain ⟨x2, r2, p2, (e2 : r1 = p2 ++ r2), f2, h⟩ := (zkl Ty.zT).step h
 cases h
 exact ⟨(p0 ++ (p1 ++ p2)), by rw [e0, e1, e2]; simp only [List.append_assoc], (f0.append (f1.append f2))⟩
theorem zou : Sp (U := U) zi1 zlq := fun l x r h => by
 unfold zi1 at h
 obtain ⟨x0, r0, p0, e0, f0, h⟩ := zr4.step h
 obtain ⟨x1, r1, p1, (e1 : r0 = p1 ++ r1), f1, h⟩ := (zkl (Ty.int .i64)).step h
 obtain ⟨x2, r2, p2, (e2 : r1 = p2 ++ r2), f2, h⟩ := (zkl Ty.zC).step h
 cases h
 exact ⟨(p0 ++ (p1 ++ p2)), by rw [e0, e1, e2]; simp only [List.append_assoc], (f0.append (f1.append f2))⟩
theorem z01 : Sp (U := U) zuf zy0 := fun l x r h => by
 unfold zuf at h
 obtain ⟨x0, r0, p0, e0, f0, h⟩ := (za4 .i64).step h
 obtain ⟨x1, r1, p1, (e1 : r0 = p1 ++ r1), f1, h⟩ := (za4 .i64).step h
 cases h
 exact ⟨(p0 ++ p1), by rw [e0, e1]; simp only [List.append_assoc], (f0.append f1)⟩
theorem zux : Sp (U := U) zni zrx := fun l x r h => by
 unfold zni at h
 obtain ⟨x0, r0, p0, e0, f0, h⟩ := zed.step h
 obtain ⟨x1, r1, p1, (e1 : r0 = p1 ++ r1), f1, h⟩ := zed.step h
 obtain ⟨x2, r2, p2, (e2 : r1 = p2 ++ r2), f2, h⟩ := zed.step h
 obtain ⟨x3, r3, p3, (e3 : r2 = p3 ++ r3), f3, h⟩ := zed.step h
 obtain ⟨x4, r4, p4, (e4 : r3 = p4 ++ r4), f4, h⟩ := zed.step h
 obtain ⟨x5, r5, p5, (e5 : r4 = p5 ++ r5), f5, h⟩ := zed.step h
 obtain ⟨x6, r6, p6, (e6 : r5 = p6 ++ r6), f6, h⟩ := zed.step h
 obtain ⟨x7, r7, p7, (e7 : r6 = p7 ++ r7), f7, h⟩ := zed.step h
 obtain ⟨x8, r8, p8, (e8 : r7 = p8 ++ r8), f8, h⟩ := zed.step h
 obtain ⟨x9, r9, p9, (e9 : r8 = p9 ++ r9), f9, h⟩ := zed.step h
 obtain ⟨x10, r10, p10, (e10 : r9 = p10 ++ r10), f10, h⟩ := zed.step h
 obtain ⟨x11, r11, p11, (e11 : r10 = p11 ++ r11), f11, h⟩ := zed.step h
 obtain ⟨x12, r12, p12, (e12 : r11 = p12 ++ r12), f12, h⟩ := zed.step h
 obtain ⟨x13, r13, p13, (e13 : r12 = p13 ++ r13), f13, h⟩ := zed.step h
 obtain ⟨x14, r14, p14, (e14 : r13 = p14 ++ r14), f14, h⟩ := (za4 .i64).step h
 obtain ⟨x15, r15, p15, (e15 : r14 = p15 ++ r15), f15, h⟩ := (za4 .i64).step h
 cases h
 exact ⟨(p0 ++ (p1 ++ (p2 ++ (p3 ++ (p4 ++ (p5 ++ (p6 ++ (p7 ++ (p8 ++ (p9 ++ (p10 ++ (p11 ++ (p12 ++ (p13 ++ (p14 ++ p15))))))))))))))), by rw [e0, e1, e2, e3, e4, e5, e6, e7, e8, e9, e10, e11, e12, e13, e14, e15]; simp only [List.append_assoc], (f0.append (f1.append (f2.append (f3.append (f4.append (f5.append (f6.append (f7.append (f8.append (f9.append (f10.append (f11.append (f12.append (f13.append (f14.append f15)))))))))))))))⟩
theorem zu2 : Sp (U := U) zq6 zy4 := fun l x r h => by
 unfold zq6 at h
 obtain ⟨x0, r0, p0, e0, f0, h⟩ := (za4 .i64).step h
 obtain ⟨x1, r1, p1, (e1 : r0 = p1 ++ r1), f1, h⟩ := (za4 .i64).step h
 cases h
 exact ⟨(p0 ++ p1), by rw [e0, e1]; simp only [List.append_assoc], (f0.append f1)⟩
theorem z00 : Sp (U := U) zue zyz := fun l x r h => by
 unfold zue at h
 obtain ⟨x0, r0, p0, e0, f0, h⟩ := (za4 .i64).step h
 obtain ⟨x1, r1, p1, (e1 : r0 = p1 ++ r1), f1, h⟩ := zu2.step h
 obtain ⟨x2, r2, p2, (e2 : r1 = p2 ++ r2), f2, h⟩ := (za4 .i64).step h
 cases h
 exact ⟨(p0 ++ (p1 ++ p2)), by rw [e0, e1, e2]; simp only [List.append_assoc], (f0.append (f1.append f2))⟩
theorem sp : ∀ t : Ty, Sp (U := U) (rd t) (enc t)
 | .int k => za4 k
 | .bool => zed
 | .str => zm9
 | .nil => z75
 | .sl t => zkl t
 | .st 0 => zt3
 | .st 1 => zpi
 | .st 2 => zmh
 | .st 3 => zu1
 | .st 4 => zuy
 | .st 5 => zqt
 | .st 6 => zkz
 | .st 7 => zwq
 | .st 8 => zt5
 | .st 9 => z2i
 | .st 10 => zr5
 | .st 11 => z2j
 | .st 12 => zu0
 | .st 13 => zuz
 | .st 14 => z4j
 | .st 15 => zxq
 | .st 16 => zxr
 | .st 17 => zt4
 | .st 18 => zxs
 | .st 19 => zr4
 | .st 20 => zou
 | .st 21 => z01
 | .st 22 => zux
 | .st 23 => zu2
 | .st 24 => z00
 | .st (_ + 25) => fun l x r h => by cases h
theorem z5p : ∀ (t : Ty) (x : den t), (enc t x).length = szT t
 | .int _, _ => rfl
 | .bool, _ => rfl
 | .str, _ => rfl
 | .nil, _ => rfl
 | .sl _, _ => rfl
 | .st 0, _ => rfl
 | .st 1, _ => rfl
 | .st 2, _ => rfl
 | .st 3, _ => rfl
 | .st 4, _ => rfl
 | .st 5, _ => rfl
 | .st 6, _ => rfl
 | .st 7, _ => rfl
 | .st 8, _ => rfl
 | .st 9, _ => rfl
 | .st 10, _ => rfl
 | .st 11, _ => rfl
 | .st 12, _ => rfl
 | .st 13, _ => rfl
 | .st 14, _ => rfl
 | .st 15, _ => rfl
 | .st 16, _ => rfl
 | .st 17, _ => rfl
 | .st 18, _ => rfl
 | .st 19, _ => rfl
 | .st 20, _ => rfl
 | .st 21, _ => rfl
 | .st 22, _ => rfl
 | .st 23, _ => rfl
 | .st 24, _ => rfl
 | .st (_ + 25), _ => rfl
theorem z8g : ∀ t : Ty, 0 < szT t
 | .int _ => Nat.one_pos
 | .bool => Nat.one_pos
 | .str => Nat.one_pos
 | .nil => Nat.one_pos
 | .sl _ => Nat.one_pos
 | .st 0 => (by decide : 0 < 2)
 | .st 1 => (by decide : 0 < 4)
 | .st 2 => (by decide : 0 < 2)
 | .st 3 => (by decide : 0 < 3)
 | .st 4 => (by decide : 0 < 2)
 | .st 5 => (by decide : 0 < 3)
 | .st 6 => (by decide : 0 < 3)
 | .st 7 => (by decide : 0 < 2)
 | .st 8 => (by decide : 0 < 27)
 | .st 9 => (by decide : 0 < 4)
 | .st 10 => (by decide : 0 < 4)
 | .st 11 => (by decide : 0 < 5)
 | .st 12 => (by decide : 0 < 2)
 | .st 13 => (by decide : 0 < 13)
 | .st 14 => (by decide : 0 < 1)
 | .st 15 => (by decide : 0 < 2)
 | .st 16 => (by decide : 0 < 10)
 | .st 17 => (by decide : 0 < 2)
 | .st 18 => (by decide : 0 < 4)
 | .st 19 => (by decide : 0 < 3)
 | .st 20 => (by decide : 0 < 5)
 | .st 21 => (by decide : 0 < 2)
 | .st 22 => (by decide : 0 < 16)
 | .st 23 => (by decide : 0 < 2)
 | .st 24 => (by decide : 0 < 4)
 | .st (_ + 25) => Nat.one_pos
theorem z9v : ∀ (t : Ty) (x : den t), (enc t x).all (fzc (U := U)) = true
 | .int _, _ => rfl
 | .bool, _ => rfl
 | .str, _ => rfl
 | .nil, _ => rfl
 | .sl _, _ => rfl
 | .st 0, _ => rfl
 | .st 1, _ => rfl
 | .st 2, _ => rfl
 | .st 3, _ => rfl
 | .st 4, _ => rfl
 | .st 5, _ => rfl
 | .st 6, _ => rfl
 | .st 7, _ => rfl
 | .st 8, _ => rfl
 | .st 9, _ => rfl
 | .st 10, _ => rfl
 | .st 11, _ => rfl
 | .st 12, _ => rfl
 | .st 13, _ => rfl
 | .st 14, _ => rfl
 | .st 15, _ => rfl
 | .st 16, _ => rfl
 | .st 17, _ => rfl
 | .st 18, _ => rfl
 | .st 19, _ => rfl
 | .st 20, _ => rfl
 | .st 21, _ => rfl
 | .st 22, _ => rfl
 | .st 23, _ => rfl
 | .st 24, _ => rfl
 | .st (_ + 25), _ => rfl
theorem z7j : ∀ t : Ty, z51 t = true → ∀ x : den t, (enc t x).all (z2k (U := U)) = true
 | .int _, _, _ => rfl
 | .bool, _, _ => rfl
 | .str, _, _ => rfl
 | .nil, _, _ => rfl
 | .sl _, h, _ => by cases h
 | .st 0, _, _ => rfl
 | .st 1, _, _ => rfl
 | .st 2, _, _ => rfl
 | .st 3, _, _ => rfl
 | .st 4, h, _ => by cases h
 | .st 5, _, _ => rfl
 | .st 6, _, _ => rfl
 | .st 7, _, _ => rfl
 | .st 8, _, _ => rfl
 | .st 9, _, _ => rfl
 | .st 10, h, _ => by cases h
 | .st 11, _, _ => rfl
 | .st 12, h, _ => by cases h
 | .st 13, h, _ => by cases h
 | .st 14, h, _ => by cases h
 | .st 15, _, _ => rfl
 | .st 16, _, _ => rfl
 | .st 17, h, _ => by cases h
 | .st 18, _, _ => rfl
 | .st 19, h, _ => by cases h
 | .st 20, h, _ => by cases h
 | .st 21, _, _ => rfl
 | .st 22, _, _ => rfl
 | .st 23, _, _ => rfl
 | .st 24, _, _ => rfl
 | .st (_ + 25), _, _ => rfl
theorem z8k : ∀ t : Ty, z83 t = false → szT t = 1
 | .int _, _ => rfl
 | .bool, _ => rfl
 | .str, _ => rfl
 | .nil, _ => rfl
 | .sl _, _ => rfl
 | .st _, h => by cases h
theorem zkr : ELaws En where
 sz := z5p
 pos := z8g
 fz := fun t x c hc => z5e (z0m (z9v t x) hc)
 one := z8k
 reify := fun t cs x h => by
  have h' : reify t cs = some x := h; unfold reify at h'; rw [Option.bind_eq_some_iff] at h'; obtain ⟨⟨y, r⟩, h1, h2⟩ := h'; cases r with
  | cons => cases h2
  | nil =>
   cases h2; obtain ⟨p, e, f⟩ := sp t cs _ _ h1; rw [List.append_nil] at e; subst e; exact ⟨f.length.trans (z5p t _), fun j c c' g1 g2 => f.get j c c' g1 g2⟩
 flat := fun t ht x c hc => zzm (z0m (z7j t ht x) hc)
 slAgg := fun _ => rfl
 slEnc := fun _ _ => rfl
 ofTo := fun _ _ => rfl
 u8sz := rfl
 u8 := fun x => ⟨x, rfl⟩
 toInts := fun xs i x n h1 h2 => by cases h2; exact h1
 toIntsLen := fun _ => rfl
 ofInts := fun l i n h => ⟨n, h, rfl⟩
 ofIntsLen := fun _ => rfl
theorem zxe {O : List (Nat × Ct U)} {X : List (Nat × Nat)} {J : List (Nat × Amx.Spec U × List Ty)} {pre : List (Nat × List Nat)} {lits ro pk bj : List Nat} : CLaws (zps O X J pre lits ro pk bj) :=
 z5h zkr (l := z5w) rfl (by kernel_rfl)
def ctv (ps : List (Md U)) (res outs : List Ty) (fr : List Nat) (ts : List Ty) (f : Fnc U ts (PT U (res ++ outs))) : Ct U := { params := ps, results := res, outs := outs, fresh := fr, fn := app U ts f }
def cvv (res ts : List Ty) (f : Fnc U ts (PT U (res ++ []))) : Ct U := ctv (ts.map .val) res [] [] ts f
def K0 : Ctx U := zps [] [] [] [] [] [] [] []
@[reducible] def Kq : Type := Kp K0
structure Cf where
 X : List (Nat × Nat) := []
 J : List (Nat × Amx.Spec U × List Ty) := []
 pre : List (Nat × List Nat) := []
 lits : List Nat := []
 ro : List Nat := []
 pk : List Nat := []
 bj : List Nat := []
def cxo (l : List Kq) (c : Cf) : Ctx U := zps (Osk l) c.X c.J c.pre c.lits c.ro c.pk c.bj
theorem go (l : List Kq) (c : Cf) {f : FuncId} {fn : Func} {ps : List (Md U)} {res outs : List Ty} {fr : List Nat} {ts : List Ty} {F : Fnc U ts (PT U (res ++ outs))} (L : List (Nat × Cut U (PT U ((ctv ps res outs fr ts F).results ++ (ctv ps res outs fr ts F).outs)))) (hf : Proofs.Tryz.prog.funcs[f]? = some fn) (hn : ((fn.name == "runtime.NumGoroutine") || !fn.body.isSome) = false := by kernel_rfl)
 (hok : zvp (cxo l c) (ctv ps res outs fr ts F) = fun _ => true := by kernel_rfl) (hr : (cur ts (z4n (cxo l c) fn (ctv ps res outs fr ts F) (pick L)) : Fnc U ts (PT U (res ++ outs))) = F := by kernel_rfl) (hL : Ls (cxo l c) fn (ctv ps res outs fr ts F) (pick L) L := by exact trivial) (hX : ∀ p ∈ c.X, z84 Proofs.Tryz.prog p := by exact all_nil) : zh5 K0 f (ctv ps res outs fr ts F) := by
 rw [Bool.or_eq_false_iff] at hn
 exact zh5.ctx (C := cxo l c) (C' := K0) rfl rfl rfl (z3c (C := cxo l c) zxe (z9n (C := cxo l c) (C0 := K0) (l := l) rfl rfl rfl rfl) (zxh (l := c.X) rfl hX) hf hn.1 (by simpa using hn.2) (z8n rfl hL) (fun y => congrFun hok y) (z7q hr))
end
end Go.Proofs.YtblgefddnnlniaaGreatDoor.M
