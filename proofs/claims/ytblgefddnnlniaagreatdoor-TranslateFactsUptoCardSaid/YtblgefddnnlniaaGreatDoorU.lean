/- The program's types, and their cells. -/
import Derived.Test.YtblgefddnnlniaaGreatDoorA4
import Derived.Test.YtblgefddnnlniaaGreatDoorShelf
import Derived.KernelRfl
namespace Go.Proofs.YtblgefddnnlniaaGreatDoor.M
open Go Go.Amx
set_option linter.unusedVariables false
set_option maxRecDepth 100000
noncomputable section
structure zR where
 fields : Int
 types : Int
structure zY where
 x : Int
 y : Int
 signed : Bool
 code : Int
structure zV where
 msg : ByteArray
 addr : Int
structure zI where
 Registers : Int
 yB : Bool
 zZ : Bool
structure Storage where
 Bytes : ByteArray
 Tags : List Bool
structure zK where
 Based : Bool
 Pointer : Int
 Offset : Int
structure DataType where
 Kind : Int
 Length : Int
 Scale : Int
structure Number where
 N : Int
 Scale : Int
structure zC where
 Op : Int
 R : Int
 A : Int
 B : Int
 zO : Int
 Place : zK
 From : zK
 zD : DataType
 Second : DataType
 Half : Bool
 zN : Bool
 Number : Number
 Text : ByteArray
 Other : ByteArray
 Mask : Int
 Target : Int
 Pointer : Int
 Source : Int
structure zP where
 From : Int
 To : Int
 Exception : Int
 Handler : Int
structure zF where
 Storage : Storage
 zA : List zC
 zQ : List zP
structure zB where
 Register : Int
 zD : DataType
 Offset : Int
structure zW where
 Facts : List (List zB)
 Index : List Int
structure Optimization where
 Model : zI
 Before : zF
 After : zF
 Proof : zW
structure zX where
 Starts : List Int
structure Value where
 N : Int
 S : ByteArray
structure zH where
 Name : ByteArray
 Kind : Int
 zD : DataType
 Value : Value
 Base : ByteArray
 Offset : Int
 Target : Int
structure zM where
 Op : Int
 Args : List Int
structure zT where
 From : Int
 To : Int
 Exception : Int
 Handler : Int
structure zJ where
 zS : List zH
 zA : List zM
 yA : List zT
structure zG where
 zJ : zJ
 layout : List Int
 code : List zC
structure zU where
 Part : Int
 Index : Int
structure zL where
 R : Bool
 A : Bool
 B : Bool
 Place : Bool
 From : Bool
 Half : Bool
 Number : Bool
 zO : Bool
 Mask : Bool
 Target : Bool
 Text : Bool
 Other : Bool
 Pointer : Bool
 Source : Bool
 zD : Int
 Second : Int
structure Address where
 yC : Int
 Offset : Int
structure Pointer where
 Kind : Int
 Address : Address
 Authority : Int
inductive Ty where
 | int (k : IntKind)
 | bool
 | str
 | nil
 | sl (t : Ty)
 | st (n : Nat)
@[reducible] def zzg : Nat → Type
 | 0 => zR
 | 1 => zY
 | 2 => zV
 | 3 => zI
 | 4 => Storage
 | 5 => zK
 | 6 => DataType
 | 7 => Number
 | 8 => zC
 | 9 => zP
 | 10 => zF
 | 11 => zB
 | 12 => zW
 | 13 => Optimization
 | 14 => zX
 | 15 => Value
 | 16 => zH
 | 17 => zM
 | 18 => zT
 | 19 => zJ
 | 20 => zG
 | 21 => zU
 | 22 => zL
 | 23 => Address
 | 24 => Pointer
 | _ + 25 => Unit
@[reducible] def den : Ty → Type
 | .int _ => Int
 | .bool => Bool
 | .str => ByteArray
 | .nil => Unit
 | .sl t => List (den t)
 | .st n => zzg n
def eqTy : (a b : Ty) → Option (PLift (a = b))
 | .int j, .int k => if h : j = k then some ⟨by rw [h]⟩ else none
 | .bool, .bool => some ⟨rfl⟩
 | .str, .str => some ⟨rfl⟩
 | .nil, .nil => some ⟨rfl⟩
 | .sl a, .sl b => match eqTy a b with
  | some ⟨h⟩ => some ⟨by rw [h]⟩
  | none => none
 | .st i, .st j => if h : i = j then some ⟨by rw [h]⟩ else none
 | _, _ => none
@[reducible] def U : Uni := { Ty := Ty, den := den, eqTy := eqTy }
@[reducible] def T6 : Ty := Ty.int .i64
def w6 (n : Int) : Int := IntKind.wrap .i64 n
@[reducible] def Ty.zR : Ty := .st 0
@[reducible] def Ty.zY : Ty := .st 1
@[reducible] def Ty.zV : Ty := .st 2
@[reducible] def Ty.zI : Ty := .st 3
@[reducible] def Ty.Storage : Ty := .st 4
@[reducible] def Ty.zK : Ty := .st 5
@[reducible] def Ty.DataType : Ty := .st 6
@[reducible] def Ty.Number : Ty := .st 7
@[reducible] def Ty.zC : Ty := .st 8
@[reducible] def Ty.zP : Ty := .st 9
@[reducible] def Ty.zF : Ty := .st 10
@[reducible] def Ty.zB : Ty := .st 11
@[reducible] def Ty.zW : Ty := .st 12
@[reducible] def Ty.Optimization : Ty := .st 13
@[reducible] def Ty.zX : Ty := .st 14
@[reducible] def Ty.Value : Ty := .st 15
@[reducible] def Ty.zH : Ty := .st 16
@[reducible] def Ty.zM : Ty := .st 17
@[reducible] def Ty.zT : Ty := .st 18
@[reducible] def Ty.zJ : Ty := .st 19
@[reducible] def Ty.zG : Ty := .st 20
@[reducible] def Ty.zU : Ty := .st 21
@[reducible] def Ty.zL : Ty := .st 22
@[reducible] def Ty.Address : Ty := .st 23
@[reducible] def Ty.Pointer : Ty := .st 24
def zb9 (k : IntKind) : List (AV U) → Option (Int × List (AV U))
 | .sc (.int k' n) :: l => if k = k' then some (n, l) else none
 | _ => none
def zff : List (AV U) → Option (Bool × List (AV U))
 | .sc (.bool b) :: l => some (b, l)
 | _ => none
def zoh : List (AV U) → Option (ByteArray × List (AV U))
 | .sc (.string s) :: l => some (s, l)
 | _ => none
def z2r : List (AV U) → Option (Unit × List (AV U))
 | .sc (.slice none 0 0) :: l => some ((), l)
 | _ => none
def rSl (t : Ty) : List (AV U) → Option (List (den t) × List (AV U))
 | .lst t' xs :: l => (U.eqTy t' t).map fun e => (zqk e xs, l)
 | .sc (.slice none 0 0) :: l => some ([], l)
 | _ => none
def zls (l : List (AV U)) : Option (zR × List (AV U)) := (zb9 .i64 l).bind fun x0 => (zb9 .i64 x0.2).bind fun x1 => some (⟨x0.1, x1.1⟩, x1.2)
def zin (l : List (AV U)) : Option (zY × List (AV U)) := (zb9 .i64 l).bind fun x0 => (zb9 .i64 x0.2).bind fun x1 => (zff x1.2).bind fun x2 => (zb9 .u8 x2.2).bind fun x3 => some (⟨x0.1, x1.1, x2.1, x3.1⟩, x3.2)
def zgc (l : List (AV U)) : Option (zV × List (AV U)) := (zoh l).bind fun x0 => (zb9 .u64 x0.2).bind fun x1 => some (⟨x0.1, x1.1⟩, x1.2)
def zpx (l : List (AV U)) : Option (zI × List (AV U)) := (zb9 .i64 l).bind fun x0 => (zff x0.2).bind fun x1 => (zff x1.2).bind fun x2 => some (⟨x0.1, x1.1, x2.1⟩, x2.2)
def zpt (l : List (AV U)) : Option (Storage × List (AV U)) := (zoh l).bind fun x0 => (rSl Ty.bool x0.2).bind fun x1 => some (⟨x0.1, x1.1⟩, x1.2)
def znf (l : List (AV U)) : Option (zK × List (AV U)) := (zff l).bind fun x0 => (zb9 .i64 x0.2).bind fun x1 => (zb9 .i64 x1.2).bind fun x2 => some (⟨x0.1, x1.1, x2.1⟩, x2.2)
def zjm (l : List (AV U)) : Option (DataType × List (AV U)) := (zb9 .i64 l).bind fun x0 => (zb9 .i64 x0.2).bind fun x1 => (zb9 .i64 x1.2).bind fun x2 => some (⟨x0.1, x1.1, x2.1⟩, x2.2)
def zrx (l : List (AV U)) : Option (Number × List (AV U)) := (zb9 .i64 l).bind fun x0 => (zb9 .i64 x0.2).bind fun x1 => some (⟨x0.1, x1.1⟩, x1.2)
def zlw (l : List (AV U)) : Option (zC × List (AV U)) := (zb9 .i64 l).bind fun x0 => (zb9 .i64 x0.2).bind fun x1 => (zb9 .i64 x1.2).bind fun x2 => (zb9 .i64 x2.2).bind fun x3 => (zb9 .i64 x3.2).bind fun x4 => (znf x4.2).bind fun x5 => (znf x5.2).bind fun x6 => (zjm x6.2).bind fun x7 => (zjm x7.2).bind fun x8 => (zff x8.2).bind fun x9 => (zff x9.2).bind fun x10 => (zrx x10.2).bind fun x11 => (zoh x11.2).bind fun x12 => (zoh x12.2).bind fun x13 => (zb9 .i64 x13.2).bind fun x14 => (zb9 .i64 x14.2).bind fun x15 => (zb9 .i64 x15.2).bind fun x16 => (zb9 .i64 x16.2).bind fun x17 => some (⟨x0.1, x1.1, x2.1, x3.1, x4.1, x5.1, x6.1, x7.1, x8.1, x9.1, x10.1, x11.1, x12.1, x13.1, x14.1, x15.1, x16.1, x17.1⟩, x17.2)
def zut (l : List (AV U)) : Option (zP × List (AV U)) := (zb9 .i64 l).bind fun x0 => (zb9 .i64 x0.2).bind fun x1 => (zb9 .i64 x1.2).bind fun x2 => (zb9 .i64 x2.2).bind fun x3 => some (⟨x0.1, x1.1, x2.1, x3.1⟩, x3.2)
def zo0 (l : List (AV U)) : Option (zF × List (AV U)) := (zpt l).bind fun x0 => (rSl Ty.zC x0.2).bind fun x1 => (rSl Ty.zP x1.2).bind fun x2 => some (⟨x0.1, x1.1, x2.1⟩, x2.2)
def zuu (l : List (AV U)) : Option (zB × List (AV U)) := (zb9 .i64 l).bind fun x0 => (zjm x0.2).bind fun x1 => (zb9 .i64 x1.2).bind fun x2 => some (⟨x0.1, x1.1, x2.1⟩, x2.2)
def zpw (l : List (AV U)) : Option (zW × List (AV U)) := (rSl (Ty.sl Ty.zB) l).bind fun x0 => (rSl (Ty.int .i64) x0.2).bind fun x1 => some (⟨x0.1, x1.1⟩, x1.2)
def zmp (l : List (AV U)) : Option (Optimization × List (AV U)) := (zpx l).bind fun x0 => (zo0 x0.2).bind fun x1 => (zo0 x1.2).bind fun x2 => (zpw x2.2).bind fun x3 => some (⟨x0.1, x1.1, x2.1, x3.1⟩, x3.2)
def zwr (l : List (AV U)) : Option (zX × List (AV U)) := (rSl (Ty.int .i64) l).bind fun x0 => some (⟨x0.1⟩, x0.2)
def zt2 (l : List (AV U)) : Option (Value × List (AV U)) := (zb9 .i64 l).bind fun x0 => (zoh x0.2).bind fun x1 => some (⟨x0.1, x1.1⟩, x1.2)
def zpu (l : List (AV U)) : Option (zH × List (AV U)) := (zoh l).bind fun x0 => (zb9 .i64 x0.2).bind fun x1 => (zjm x1.2).bind fun x2 => (zt2 x2.2).bind fun x3 => (zoh x3.2).bind fun x4 => (zb9 .i64 x4.2).bind fun x5 => (zb9 .i64 x5.2).bind fun x6 => some (⟨x0.1, x1.1, x2.1, x3.1, x4.1, x5.1, x6.1⟩, x6.2)
def zlv (l : List (AV U)) : Option (zM × List (AV U)) := (zb9 .i64 l).bind fun x0 => (rSl (Ty.int .i64) x0.2).bind fun x1 => some (⟨x0.1, x1.1⟩, x1.2)
def zpv (l : List (AV U)) : Option (zT × List (AV U)) := (zb9 .i64 l).bind fun x0 => (zb9 .i64 x0.2).bind fun x1 => (zb9 .i64 x1.2).bind fun x2 => (zb9 .i64 x2.2).bind fun x3 => some (⟨x0.1, x1.1, x2.1, x3.1⟩, x3.2)
def zmy (l : List (AV U)) : Option (zJ × List (AV U)) := (rSl Ty.zH l).bind fun x0 => (rSl Ty.zM x0.2).bind fun x1 => (rSl Ty.zT x1.2).bind fun x2 => some (⟨x0.1, x1.1, x2.1⟩, x2.2)
def zib (l : List (AV U)) : Option (zG × List (AV U)) := (zmy l).bind fun x0 => (rSl (Ty.int .i64) x0.2).bind fun x1 => (rSl Ty.zC x1.2).bind fun x2 => some (⟨x0.1, x1.1, x2.1⟩, x2.2)
def zs1 (l : List (AV U)) : Option (zU × List (AV U)) := (zb9 .i64 l).bind fun x0 => (zb9 .i64 x0.2).bind fun x1 => some (⟨x0.1, x1.1⟩, x1.2)
def zmo (l : List (AV U)) : Option (zL × List (AV U)) := (zff l).bind fun x0 => (zff x0.2).bind fun x1 => (zff x1.2).bind fun x2 => (zff x2.2).bind fun x3 => (zff x3.2).bind fun x4 => (zff x4.2).bind fun x5 => (zff x5.2).bind fun x6 => (zff x6.2).bind fun x7 => (zff x7.2).bind fun x8 => (zff x8.2).bind fun x9 => (zff x9.2).bind fun x10 => (zff x10.2).bind fun x11 => (zff x11.2).bind fun x12 => (zff x12.2).bind fun x13 => (zb9 .i64 x13.2).bind fun x14 => (zb9 .i64 x14.2).bind fun x15 => some (⟨x0.1, x1.1, x2.1, x3.1, x4.1, x5.1, x6.1, x7.1, x8.1, x9.1, x10.1, x11.1, x12.1, x13.1, x14.1, x15.1⟩, x15.2)
def zpy (l : List (AV U)) : Option (Address × List (AV U)) := (zb9 .i64 l).bind fun x0 => (zb9 .i64 x0.2).bind fun x1 => some (⟨x0.1, x1.1⟩, x1.2)
def zs0 (l : List (AV U)) : Option (Pointer × List (AV U)) := (zb9 .i64 l).bind fun x0 => (zpy x0.2).bind fun x1 => (zb9 .i64 x1.2).bind fun x2 => some (⟨x0.1, x1.1, x2.1⟩, x2.2)
def zo7 (x : zR) : List (AV U) := [.sc (.int .i64 x.fields), .sc (.int .i64 x.types)]
def zlj (x : zY) : List (AV U) := [.sc (.int .i64 x.x), .sc (.int .i64 x.y), .sc (.bool x.signed), .sc (.int .u8 x.code)]
def zik (x : zV) : List (AV U) := [.sc (.string x.msg), .sc (.int .u64 x.addr)]
def zxi (x : zI) : List (AV U) := [.sc (.int .i64 x.Registers), .sc (.bool x.yB), .sc (.bool x.zZ)]
def zxd (x : Storage) : List (AV U) := [.sc (.string x.Bytes), .lst Ty.bool x.Tags]
def zxh (x : zK) : List (AV U) := [.sc (.bool x.Based), .sc (.int .i64 x.Pointer), .sc (.int .i64 x.Offset)]
def zvk (x : DataType) : List (AV U) := [.sc (.int .i64 x.Kind), .sc (.int .i64 x.Length), .sc (.int .i64 x.Scale)]
def zyy (x : Number) : List (AV U) := [.sc (.int .i64 x.N), .sc (.int .i64 x.Scale)]
def zg0 (x : zC) : List (AV U) := [.sc (.int .i64 x.Op), .sc (.int .i64 x.R), .sc (.int .i64 x.A), .sc (.int .i64 x.B), .sc (.int .i64 x.zO), .sc (.bool x.Place.Based), .sc (.int .i64 x.Place.Pointer), .sc (.int .i64 x.Place.Offset), .sc (.bool x.From.Based), .sc (.int .i64 x.From.Pointer), .sc (.int .i64 x.From.Offset), .sc (.int .i64 x.zD.Kind), .sc (.int .i64 x.zD.Length), .sc (.int .i64 x.zD.Scale), .sc (.int .i64 x.Second.Kind), .sc (.int .i64 x.Second.Length), .sc (.int .i64 x.Second.Scale), .sc (.bool x.Half), .sc (.bool x.zN), .sc (.int .i64 x.Number.N), .sc (.int .i64 x.Number.Scale), .sc (.string x.Text), .sc (.string x.Other), .sc (.int .i64 x.Mask), .sc (.int .i64 x.Target), .sc (.int .i64 x.Pointer), .sc (.int .i64 x.Source)]
def zyz (x : zP) : List (AV U) := [.sc (.int .i64 x.From), .sc (.int .i64 x.To), .sc (.int .i64 x.Exception), .sc (.int .i64 x.Handler)]
def zi3 (x : zF) : List (AV U) := [.sc (.string x.Storage.Bytes), .lst Ty.bool x.Storage.Tags, .lst Ty.zC x.zA, .lst Ty.zP x.zQ]
def zpa (x : zB) : List (AV U) := [.sc (.int .i64 x.Register), .sc (.int .i64 x.zD.Kind), .sc (.int .i64 x.zD.Length), .sc (.int .i64 x.zD.Scale), .sc (.int .i64 x.Offset)]
def zxg (x : zW) : List (AV U) := [.lst (Ty.sl Ty.zB) x.Facts, .lst (Ty.int .i64) x.Index]
def zqr (x : Optimization) : List (AV U) := [.sc (.int .i64 x.Model.Registers), .sc (.bool x.Model.yB), .sc (.bool x.Model.zZ), .sc (.string x.Before.Storage.Bytes), .lst Ty.bool x.Before.Storage.Tags, .lst Ty.zC x.Before.zA, .lst Ty.zP x.Before.zQ, .sc (.string x.After.Storage.Bytes), .lst Ty.bool x.After.Storage.Tags, .lst Ty.zC x.After.zA, .lst Ty.zP x.After.zQ, .lst (Ty.sl Ty.zB) x.Proof.Facts, .lst (Ty.int .i64) x.Proof.Index]
def z1t (x : zX) : List (AV U) := [.lst (Ty.int .i64) x.Starts]
def z1s (x : Value) : List (AV U) := [.sc (.int .i64 x.N), .sc (.string x.S)]
def zue (x : zH) : List (AV U) := [.sc (.string x.Name), .sc (.int .i64 x.Kind), .sc (.int .i64 x.zD.Kind), .sc (.int .i64 x.zD.Length), .sc (.int .i64 x.zD.Scale), .sc (.int .i64 x.Value.N), .sc (.string x.Value.S), .sc (.string x.Base), .sc (.int .i64 x.Offset), .sc (.int .i64 x.Target)]
def zo9 (x : zM) : List (AV U) := [.sc (.int .i64 x.Op), .lst (Ty.int .i64) x.Args]
def zuf (x : zT) : List (AV U) := [.sc (.int .i64 x.From), .sc (.int .i64 x.To), .sc (.int .i64 x.Exception), .sc (.int .i64 x.Handler)]
def zud (x : zJ) : List (AV U) := [.lst Ty.zH x.zS, .lst Ty.zM x.zA, .lst Ty.zT x.yA]
def zk2 (x : zG) : List (AV U) := [.lst Ty.zH x.zJ.zS, .lst Ty.zM x.zJ.zA, .lst Ty.zT x.zJ.yA, .lst (Ty.int .i64) x.layout, .lst Ty.zC x.code]
def zxf (x : zU) : List (AV U) := [.sc (.int .i64 x.Part), .sc (.int .i64 x.Index)]
def zqq (x : zL) : List (AV U) := [.sc (.bool x.R), .sc (.bool x.A), .sc (.bool x.B), .sc (.bool x.Place), .sc (.bool x.From), .sc (.bool x.Half), .sc (.bool x.Number), .sc (.bool x.zO), .sc (.bool x.Mask), .sc (.bool x.Target), .sc (.bool x.Text), .sc (.bool x.Other), .sc (.bool x.Pointer), .sc (.bool x.Source), .sc (.int .i64 x.zD), .sc (.int .i64 x.Second)]
def zxj (x : Address) : List (AV U) := [.sc (.int .i64 x.yC), .sc (.int .i64 x.Offset)]
def zxe (x : Pointer) : List (AV U) := [.sc (.int .i64 x.Kind), .sc (.int .i64 x.Address.yC), .sc (.int .i64 x.Address.Offset), .sc (.int .i64 x.Authority)]
def z60 : (n : Nat) → zzg n → List (AV U)
 | 0, x => zo7 x
 | 1, x => zlj x
 | 2, x => zik x
 | 3, x => zxi x
 | 4, x => zxd x
 | 5, x => zxh x
 | 6, x => zvk x
 | 7, x => zyy x
 | 8, x => zg0 x
 | 9, x => zyz x
 | 10, x => zi3 x
 | 11, x => zpa x
 | 12, x => zxg x
 | 13, x => zqr x
 | 14, x => z1t x
 | 15, x => z1s x
 | 16, x => zue x
 | 17, x => zo9 x
 | 18, x => zuf x
 | 19, x => zud x
 | 20, x => zk2 x
 | 21, x => zxf x
 | 22, x => zqq x
 | 23, x => zxj x
 | 24, x => zxe x
 | _ + 25, _ => [.sc (.bool true)]
def z63 : (n : Nat) → List (AV U) → Option (zzg n × List (AV U))
 | 0, l => zls l
 | 1, l => zin l
 | 2, l => zgc l
 | 3, l => zpx l
 | 4, l => zpt l
 | 5, l => znf l
 | 6, l => zjm l
 | 7, l => zrx l
 | 8, l => zlw l
 | 9, l => zut l
 | 10, l => zo0 l
 | 11, l => zuu l
 | 12, l => zpw l
 | 13, l => zmp l
 | 14, l => zwr l
 | 15, l => zt2 l
 | 16, l => zpu l
 | 17, l => zlv l
 | 18, l => zpv l
 | 19, l => zmy l
 | 20, l => zib l
 | 21, l => zs1 l
 | 22, l => zmo l
 | 23, l => zpy l
 | 24, l => zs0 l
 | _ + 25, _ => none
def enc : (t : Ty) → den t → List (AV U)
 | .int k, n => [.sc (.int k n)]
 | .bool, b => [.sc (.bool b)]
 | .str, s => [.sc (.string s)]
 | .nil, _ => [.sc (.slice none 0 0)]
 | .sl t, xs => [.lst t xs]
 | .st n, x => z60 n x
def rd : (t : Ty) → List (AV U) → Option (den t × List (AV U))
 | .int k, l => zb9 k l
 | .bool, l => zff l
 | .str, l => zoh l
 | .nil, l => z2r l
 | .sl t, l => rSl t l
 | .st n, l => z63 n l
def reify (t : Ty) (l : List (AV U)) : Option (den t) := (rd t l).bind fun r => match r.2 with
 | [] => some r.1
 | _ => none
def z62 : Nat → Nat
 | 0 => 2
 | 1 => 4
 | 2 => 2
 | 3 => 3
 | 4 => 2
 | 5 => 3
 | 6 => 3
 | 7 => 2
 | 8 => 27
 | 9 => 4
 | 10 => 4
 | 11 => 5
 | 12 => 2
 | 13 => 13
 | 14 => 1
 | 15 => 2
 | 16 => 10
 | 17 => 2
 | 18 => 4
 | 19 => 3
 | 20 => 5
 | 21 => 2
 | 22 => 16
 | 23 => 2
 | 24 => 4
 | _ + 25 => 1
def z52 : Nat → Bool
 | 0 => true
 | 1 => true
 | 2 => true
 | 3 => true
 | 4 => false
 | 5 => true
 | 6 => true
 | 7 => true
 | 8 => true
 | 9 => true
 | 10 => false
 | 11 => true
 | 12 => false
 | 13 => false
 | 14 => false
 | 15 => true
 | 16 => true
 | 17 => false
 | 18 => true
 | 19 => false
 | 20 => false
 | 21 => true
 | 22 => true
 | 23 => true
 | 24 => true
 | _ + 25 => true
def szT : Ty → Nat
 | .st n => z62 n
 | _ => 1
def z57 : Ty → Bool
 | .st _ => true
 | _ => false
def z3p : Ty → Bool
 | .sl _ => false
 | .st n => z52 n
 | _ => true
def z3l : List (Nat × Ty) := [(2, (Ty.int .i64)), (3, (Ty.int .i64)), (4, Ty.bool), (5, (Ty.int .u8)), (6, (Ty.int .u8)), (8, Ty.zY), (9, Ty.str), (10, Ty.str), (11, Ty.str), (12, (Ty.int .u64)), (14, Ty.zV), (21, (Ty.int .i32)), (23, Ty.zI), (24, (Ty.sl Ty.bool)), (26, Ty.Storage), (27, (Ty.sl Ty.zC)), (28, (Ty.sl Ty.zP)), (30, Ty.zF), (33, (Ty.sl (Ty.sl Ty.zB))), (34, (Ty.int .i64)), (43, (Ty.sl (Ty.int .i64))), (45, Ty.zW), (51, Ty.Optimization), (60, (Ty.sl (Ty.sl (Ty.int .i64)))), (67, Ty.zX), (70, (Ty.sl Ty.zH)), (71, (Ty.sl Ty.zM)), (72, (Ty.sl Ty.zT)), (74, Ty.zJ), (77, Ty.zK), (79, Ty.DataType), (81, Ty.Number), (83, Ty.zC), (88, (Ty.sl Ty.zB)), (97, Ty.zB), (110, Ty.zP), (125, (Ty.sl (Ty.sl Ty.bool))), (135, Ty.zG), (137, Ty.zM), (142, Ty.Value), (144, Ty.zH), (157, (Ty.sl (Ty.int .i64))), (161, (Ty.sl (Ty.int .u8))), (163, Ty.zU), (175, Ty.zT), (183, Ty.zL), (213, Ty.Address), (215, Ty.Pointer), (221, Ty.zR), (238, (Ty.int .u64)), (269, (Ty.int .u32)), (272, (Ty.int .u64)), (278, (Ty.int .i64)), (290, (Ty.int .u64)), (302, (Ty.int .u8)), (303, (Ty.int .u8)), (305, (Ty.int .i32)), (306, (Ty.int .i32))]
def En : Enc U := { sz := szT, agg := z57, flat := z3p, enc := enc, reify := reify, ofGo := pick z3l, sl := Ty.sl, toSl := fun _ xs => xs, ofSl := fun _ xs => xs, u8 := .int .u8, ofInts := fun l => l, toInts := fun l => l }
def zz1 : List (List Int) := [[0, 4], [2, 3], [2, 3, 3], [2, 3, 3], [2, 3, 3], [2, 3, 3], [2, 3, 3], [1, 4, 6], [1, 4, 6], [6], [5, 0], [5, 5], [5, 3], [6], [], [3], [2], [1], []]
def zz2 : List zR := [⟨41, 1⟩, ⟨169, 1⟩, ⟨257, 0⟩, ⟨3, 0⟩, ⟨32807, 1⟩, ⟨6, 0⟩, ⟨6144, 0⟩, ⟨6150, 0⟩, ⟨4096, 0⟩, ⟨120, 2⟩, ⟨552, 2⟩, ⟨120, 2⟩, ⟨552, 2⟩, ⟨1536, 0⟩, ⟨8232, 3⟩, ⟨24576, 0⟩, ⟨8193, 0⟩, ⟨8192, 0⟩, ⟨4096, 0⟩, ⟨0, 0⟩, ⟨1, 0⟩, ⟨1, 0⟩, ⟨1, 0⟩, ⟨40, 2⟩, ⟨512, 0⟩, ⟨0, 0⟩, ⟨0, 0⟩]
def globs : List (Nat × AV U) := [(0, .rarr (Ty.sl (Ty.int .i64)) zz1), (1, .rarr Ty.zR zz2)]
def zom (O : List (Nat × Ct U)) (X : List (Nat × Nat)) (J : List (Nat × Amx.Spec U × List Ty)) (pre : List (Nat × List Nat)) (lits ro pk bj : List Nat) : Ctx U :=
 { P := Proofs.Tryz.prog, En := En, G := pick globs, O := pick O, X := pick X, joins := pick J, pre := fun r => (pick pre r).getD [], lits := lits, ro := ro, pk := pk, bj := bj }
theorem za0 (k : IntKind) : Sp (U := U) (zb9 k) (fun n : Int => [.sc (.int k n)]) := fun l x r h => by
 unfold zb9 at h
 split at h
 · split at h
   · rename_i e; cases h; subst e; exact ⟨[_], rfl, F2.refl_ref _⟩
   · cases h
 · cases h
theorem zdo : Sp (U := U) zff (fun b : Bool => [.sc (.bool b)]) := fun l x r h => by
 unfold zff at h
 split at h
 · cases h; exact ⟨[_], rfl, F2.refl_ref _⟩
 · cases h
theorem zme : Sp (U := U) zoh (fun s : ByteArray => [.sc (.string s)]) := fun l x r h => by
 unfold zoh at h
 split at h
 · cases h; exact ⟨[_], rfl, F2.refl_ref _⟩
 · cases h
theorem z5c : Sp (U := U) z2r (fun _ : Unit => [.sc (.slice none 0 0)]) := fun l x r h => by
 unfold z2r at h
 split at h
 · cases h; exact ⟨[_], rfl, F2.refl_ref _⟩
 · cases h
theorem zjw (t : Ty) : Sp (U := U) (rSl t) (fun xs : List (den t) => [.lst t xs]) := fun l x r h => by
 unfold rSl at h
 split at h
 · rw [Option.map_eq_some_iff] at h; obtain ⟨⟨e⟩, _, h2⟩ := h; cases e; cases h2; exact ⟨[_], rfl, F2.refl_ref _⟩
 · cases h; exact ⟨[_], rfl, .cons (.inr ⟨rfl, _, rfl⟩) .nil⟩
 · cases h
theorem zsq : Sp (U := U) zls zo7 := fun l x r h => by
 unfold zls at h
 obtain ⟨x0, r0, p0, e0, f0, h⟩ := (za0 .i64).step h
 obtain ⟨x1, r1, p1, (e1 : r0 = p1 ++ r1), f1, h⟩ := (za0 .i64).step h
 cases h
 exact ⟨(p0 ++ p1), by rw [e0, e1]; simp only [List.append_assoc], (f0.append f1)⟩
theorem zoe : Sp (U := U) zin zlj := fun l x r h => by
 unfold zin at h
 obtain ⟨x0, r0, p0, e0, f0, h⟩ := (za0 .i64).step h
 obtain ⟨x1, r1, p1, (e1 : r0 = p1 ++ r1), f1, h⟩ := (za0 .i64).step h
 obtain ⟨x2, r2, p2, (e2 : r1 = p2 ++ r2), f2, h⟩ := zdo.step h
 obtain ⟨x3, r3, p3, (e3 : r2 = p3 ++ r3), f3, h⟩ := (za0 .u8).step h
 cases h
 exact ⟨(p0 ++ (p1 ++ (p2 ++ p3))), by rw [e0, e1, e2, e3]; simp only [List.append_assoc], (f0.append (f1.append (f2.append f3)))⟩
theorem zln : Sp (U := U) zgc zik := fun l x r h => by
 unfold zgc at h
 obtain ⟨x0, r0, p0, e0, f0, h⟩ := zme.step h
 obtain ⟨x1, r1, p1, (e1 : r0 = p1 ++ r1), f1, h⟩ := (za0 .u64).step h
 cases h
 exact ⟨(p0 ++ p1), by rw [e0, e1]; simp only [List.append_assoc], (f0.append f1)⟩
theorem ztn : Sp (U := U) zpx zxi := fun l x r h => by
 unfold zpx at h
 obtain ⟨x0, r0, p0, e0, f0, h⟩ := (za0 .i64).step h
 obtain ⟨x1, r1, p1, (e1 : r0 = p1 ++ r1), f1, h⟩ := zdo.step h
 obtain ⟨x2, r2, p2, (e2 : r1 = p2 ++ r2), f2, h⟩ := zdo.step h
 cases h
 exact ⟨(p0 ++ (p1 ++ p2)), by rw [e0, e1, e2]; simp only [List.append_assoc], (f0.append (f1.append f2))⟩
theorem ztk : Sp (U := U) zpt zxd := fun l x r h => by
 unfold zpt at h
 obtain ⟨x0, r0, p0, e0, f0, h⟩ := zme.step h
 obtain ⟨x1, r1, p1, (e1 : r0 = p1 ++ r1), f1, h⟩ := (zjw Ty.bool).step h
 cases h
 exact ⟨(p0 ++ p1), by rw [e0, e1]; simp only [List.append_assoc], (f0.append f1)⟩
theorem zpn : Sp (U := U) znf zxh := fun l x r h => by
 unfold znf at h
 obtain ⟨x0, r0, p0, e0, f0, h⟩ := zdo.step h
 obtain ⟨x1, r1, p1, (e1 : r0 = p1 ++ r1), f1, h⟩ := (za0 .i64).step h
 obtain ⟨x2, r2, p2, (e2 : r1 = p2 ++ r2), f2, h⟩ := (za0 .i64).step h
 cases h
 exact ⟨(p0 ++ (p1 ++ p2)), by rw [e0, e1, e2]; simp only [List.append_assoc], (f0.append (f1.append f2))⟩
theorem zj9 : Sp (U := U) zjm zvk := fun l x r h => by
 unfold zjm at h
 obtain ⟨x0, r0, p0, e0, f0, h⟩ := (za0 .i64).step h
 obtain ⟨x1, r1, p1, (e1 : r0 = p1 ++ r1), f1, h⟩ := (za0 .i64).step h
 obtain ⟨x2, r2, p2, (e2 : r1 = p2 ++ r2), f2, h⟩ := (za0 .i64).step h
 cases h
 exact ⟨(p0 ++ (p1 ++ p2)), by rw [e0, e1, e2]; simp only [List.append_assoc], (f0.append (f1.append f2))⟩
theorem zva : Sp (U := U) zrx zyy := fun l x r h => by
 unfold zrx at h
 obtain ⟨x0, r0, p0, e0, f0, h⟩ := (za0 .i64).step h
 obtain ⟨x1, r1, p1, (e1 : r0 = p1 ++ r1), f1, h⟩ := (za0 .i64).step h
 cases h
 exact ⟨(p0 ++ p1), by rw [e0, e1]; simp only [List.append_assoc], (f0.append f1)⟩
theorem zss : Sp (U := U) zlw zg0 := fun l x r h => by
 unfold zlw at h
 obtain ⟨x0, r0, p0, e0, f0, h⟩ := (za0 .i64).step h
 obtain ⟨x1, r1, p1, (e1 : r0 = p1 ++ r1), f1, h⟩ := (za0 .i64).step h
 obtain ⟨x2, r2, p2, (e2 : r1 = p2 ++ r2), f2, h⟩ := (za0 .i64).step h
 obtain ⟨x3, r3, p3, (e3 : r2 = p3 ++ r3), f3, h⟩ := (za0 .i64).step h
 obtain ⟨x4, r4, p4, (e4 : r3 = p4 ++ r4), f4, h⟩ := (za0 .i64).step h
 obtain ⟨x5, r5, p5, (e5 : r4 = p5 ++ r5), f5, h⟩ := zpn.step h
 obtain ⟨x6, r6, p6, (e6 : r5 = p6 ++ r6), f6, h⟩ := zpn.step h
 obtain ⟨x7, r7, p7, (e7 : r6 = p7 ++ r7), f7, h⟩ := zj9.step h
 obtain ⟨x8, r8, p8, (e8 : r7 = p8 ++ r8), f8, h⟩ := zj9.step h
 obtain ⟨x9, r9, p9, (e9 : r8 = p9 ++ r9), f9, h⟩ := zdo.step h
 obtain ⟨x10, r10, p10, (e10 : r9 = p10 ++ r10), f10, h⟩ := zdo.step h
 obtain ⟨x11, r11, p11, (e11 : r10 = p11 ++ r11), f11, h⟩ := zva.step h
 obtain ⟨x12, r12, p12, (e12 : r11 = p12 ++ r12), f12, h⟩ := zme.step h
 obtain ⟨x13, r13, p13, (e13 : r12 = p13 ++ r13), f13, h⟩ := zme.step h
 obtain ⟨x14, r14, p14, (e14 : r13 = p14 ++ r14), f14, h⟩ := (za0 .i64).step h
 obtain ⟨x15, r15, p15, (e15 : r14 = p15 ++ r15), f15, h⟩ := (za0 .i64).step h
 obtain ⟨x16, r16, p16, (e16 : r15 = p16 ++ r16), f16, h⟩ := (za0 .i64).step h
 obtain ⟨x17, r17, p17, (e17 : r16 = p17 ++ r17), f17, h⟩ := (za0 .i64).step h
 cases h
 exact ⟨(p0 ++ (p1 ++ (p2 ++ (p3 ++ (p4 ++ (p5 ++ (p6 ++ (p7 ++ (p8 ++ (p9 ++ (p10 ++ (p11 ++ (p12 ++ (p13 ++ (p14 ++ (p15 ++ (p16 ++ p17))))))))))))))))), by rw [e0, e1, e2, e3, e4, e5, e6, e7, e8, e9, e10, e11, e12, e13, e14, e15, e16, e17]; simp only [List.append_assoc], (f0.append (f1.append (f2.append (f3.append (f4.append (f5.append (f6.append (f7.append (f8.append (f9.append (f10.append (f11.append (f12.append (f13.append (f14.append (f15.append (f16.append f17)))))))))))))))))⟩
theorem z0r : Sp (U := U) zut zyz := fun l x r h => by
 unfold zut at h
 obtain ⟨x0, r0, p0, e0, f0, h⟩ := (za0 .i64).step h
 obtain ⟨x1, r1, p1, (e1 : r0 = p1 ++ r1), f1, h⟩ := (za0 .i64).step h
 obtain ⟨x2, r2, p2, (e2 : r1 = p2 ++ r2), f2, h⟩ := (za0 .i64).step h
 obtain ⟨x3, r3, p3, (e3 : r2 = p3 ++ r3), f3, h⟩ := (za0 .i64).step h
 cases h
 exact ⟨(p0 ++ (p1 ++ (p2 ++ p3))), by rw [e0, e1, e2, e3]; simp only [List.append_assoc], (f0.append (f1.append (f2.append f3)))⟩
theorem zqz : Sp (U := U) zo0 zi3 := fun l x r h => by
 unfold zo0 at h
 obtain ⟨x0, r0, p0, e0, f0, h⟩ := ztk.step h
 obtain ⟨x1, r1, p1, (e1 : r0 = p1 ++ r1), f1, h⟩ := (zjw Ty.zC).step h
 obtain ⟨x2, r2, p2, (e2 : r1 = p2 ++ r2), f2, h⟩ := (zjw Ty.zP).step h
 cases h
 exact ⟨(p0 ++ (p1 ++ p2)), by rw [e0, e1, e2]; simp only [List.append_assoc], (f0.append (f1.append f2))⟩
theorem z0s : Sp (U := U) zuu zpa := fun l x r h => by
 unfold zuu at h
 obtain ⟨x0, r0, p0, e0, f0, h⟩ := (za0 .i64).step h
 obtain ⟨x1, r1, p1, (e1 : r0 = p1 ++ r1), f1, h⟩ := zj9.step h
 obtain ⟨x2, r2, p2, (e2 : r1 = p2 ++ r2), f2, h⟩ := (za0 .i64).step h
 cases h
 exact ⟨(p0 ++ (p1 ++ p2)), by rw [e0, e1, e2]; simp only [List.append_assoc], (f0.append (f1.append f2))⟩
theorem ztm : Sp (U := U) zpw zxg := fun l x r h => by
 unfold zpw at h
 obtain ⟨x0, r0, p0, e0, f0, h⟩ := (zjw (Ty.sl Ty.zB)).step h
 obtain ⟨x1, r1, p1, (e1 : r0 = p1 ++ r1), f1, h⟩ := (zjw (Ty.int .i64)).step h
 cases h
 exact ⟨(p0 ++ p1), by rw [e0, e1]; simp only [List.append_assoc], (f0.append f1)⟩
theorem ztl : Sp (U := U) zmp zqr := fun l x r h => by
 unfold zmp at h
 obtain ⟨x0, r0, p0, e0, f0, h⟩ := ztn.step h
 obtain ⟨x1, r1, p1, (e1 : r0 = p1 ++ r1), f1, h⟩ := zqz.step h
 obtain ⟨x2, r2, p2, (e2 : r1 = p2 ++ r2), f2, h⟩ := zqz.step h
 obtain ⟨x3, r3, p3, (e3 : r2 = p3 ++ r3), f3, h⟩ := ztm.step h
 cases h
 exact ⟨(p0 ++ (p1 ++ (p2 ++ p3))), by rw [e0, e1, e2, e3]; simp only [List.append_assoc], (f0.append (f1.append (f2.append f3)))⟩
theorem z2f : Sp (U := U) zwr z1t := fun l x r h => by
 unfold zwr at h
 obtain ⟨x0, r0, p0, e0, f0, h⟩ := (zjw (Ty.int .i64)).step h
 cases h
 exact ⟨p0, by rw [e0], f0⟩
theorem zv7 : Sp (U := U) zt2 z1s := fun l x r h => by
 unfold zt2 at h
 obtain ⟨x0, r0, p0, e0, f0, h⟩ := (za0 .i64).step h
 obtain ⟨x1, r1, p1, (e1 : r0 = p1 ++ r1), f1, h⟩ := zme.step h
 cases h
 exact ⟨(p0 ++ p1), by rw [e0, e1]; simp only [List.append_assoc], (f0.append f1)⟩
theorem zv8 : Sp (U := U) zpu zue := fun l x r h => by
 unfold zpu at h
 obtain ⟨x0, r0, p0, e0, f0, h⟩ := zme.step h
 obtain ⟨x1, r1, p1, (e1 : r0 = p1 ++ r1), f1, h⟩ := (za0 .i64).step h
 obtain ⟨x2, r2, p2, (e2 : r1 = p2 ++ r2), f2, h⟩ := zj9.step h
 obtain ⟨x3, r3, p3, (e3 : r2 = p3 ++ r3), f3, h⟩ := zv7.step h
 obtain ⟨x4, r4, p4, (e4 : r3 = p4 ++ r4), f4, h⟩ := zme.step h
 obtain ⟨x5, r5, p5, (e5 : r4 = p5 ++ r5), f5, h⟩ := (za0 .i64).step h
 obtain ⟨x6, r6, p6, (e6 : r5 = p6 ++ r6), f6, h⟩ := (za0 .i64).step h
 cases h
 exact ⟨(p0 ++ (p1 ++ (p2 ++ (p3 ++ (p4 ++ (p5 ++ p6)))))), by rw [e0, e1, e2, e3, e4, e5, e6]; simp only [List.append_assoc], (f0.append (f1.append (f2.append (f3.append (f4.append (f5.append f6))))))⟩
theorem zsr : Sp (U := U) zlv zo9 := fun l x r h => by
 unfold zlv at h
 obtain ⟨x0, r0, p0, e0, f0, h⟩ := (za0 .i64).step h
 obtain ⟨x1, r1, p1, (e1 : r0 = p1 ++ r1), f1, h⟩ := (zjw (Ty.int .i64)).step h
 cases h
 exact ⟨(p0 ++ p1), by rw [e0, e1]; simp only [List.append_assoc], (f0.append f1)⟩
theorem zv9 : Sp (U := U) zpv zuf := fun l x r h => by
 unfold zpv at h
 obtain ⟨x0, r0, p0, e0, f0, h⟩ := (za0 .i64).step h
 obtain ⟨x1, r1, p1, (e1 : r0 = p1 ++ r1), f1, h⟩ := (za0 .i64).step h
 obtain ⟨x2, r2, p2, (e2 : r1 = p2 ++ r2), f2, h⟩ := (za0 .i64).step h
 obtain ⟨x3, r3, p3, (e3 : r2 = p3 ++ r3), f3, h⟩ := (za0 .i64).step h
 cases h
 exact ⟨(p0 ++ (p1 ++ (p2 ++ p3))), by rw [e0, e1, e2, e3]; simp only [List.append_assoc], (f0.append (f1.append (f2.append f3)))⟩
theorem zqy : Sp (U := U) zmy zud := fun l x r h => by
 unfold zmy at h
 obtain ⟨x0, r0, p0, e0, f0, h⟩ := (zjw Ty.zH).step h
 obtain ⟨x1, r1, p1, (e1 : r0 = p1 ++ r1), f1, h⟩ := (zjw Ty.zM).step h
 obtain ⟨x2, r2, p2, (e2 : r1 = p2 ++ r2), f2, h⟩ := (zjw Ty.zT).step h
 cases h
 exact ⟨(p0 ++ (p1 ++ p2)), by rw [e0, e1, e2]; simp only [List.append_assoc], (f0.append (f1.append f2))⟩
theorem znr : Sp (U := U) zib zk2 := fun l x r h => by
 unfold zib at h
 obtain ⟨x0, r0, p0, e0, f0, h⟩ := zqy.step h
 obtain ⟨x1, r1, p1, (e1 : r0 = p1 ++ r1), f1, h⟩ := (zjw (Ty.int .i64)).step h
 obtain ⟨x2, r2, p2, (e2 : r1 = p2 ++ r2), f2, h⟩ := (zjw Ty.zC).step h
 cases h
 exact ⟨(p0 ++ (p1 ++ p2)), by rw [e0, e1, e2]; simp only [List.append_assoc], (f0.append (f1.append f2))⟩
theorem zzi : Sp (U := U) zs1 zxf := fun l x r h => by
 unfold zs1 at h
 obtain ⟨x0, r0, p0, e0, f0, h⟩ := (za0 .i64).step h
 obtain ⟨x1, r1, p1, (e1 : r0 = p1 ++ r1), f1, h⟩ := (za0 .i64).step h
 cases h
 exact ⟨(p0 ++ p1), by rw [e0, e1]; simp only [List.append_assoc], (f0.append f1)⟩
theorem ztj : Sp (U := U) zmo zqq := fun l x r h => by
 unfold zmo at h
 obtain ⟨x0, r0, p0, e0, f0, h⟩ := zdo.step h
 obtain ⟨x1, r1, p1, (e1 : r0 = p1 ++ r1), f1, h⟩ := zdo.step h
 obtain ⟨x2, r2, p2, (e2 : r1 = p2 ++ r2), f2, h⟩ := zdo.step h
 obtain ⟨x3, r3, p3, (e3 : r2 = p3 ++ r3), f3, h⟩ := zdo.step h
 obtain ⟨x4, r4, p4, (e4 : r3 = p4 ++ r4), f4, h⟩ := zdo.step h
 obtain ⟨x5, r5, p5, (e5 : r4 = p5 ++ r5), f5, h⟩ := zdo.step h
 obtain ⟨x6, r6, p6, (e6 : r5 = p6 ++ r6), f6, h⟩ := zdo.step h
 obtain ⟨x7, r7, p7, (e7 : r6 = p7 ++ r7), f7, h⟩ := zdo.step h
 obtain ⟨x8, r8, p8, (e8 : r7 = p8 ++ r8), f8, h⟩ := zdo.step h
 obtain ⟨x9, r9, p9, (e9 : r8 = p9 ++ r9), f9, h⟩ := zdo.step h
 obtain ⟨x10, r10, p10, (e10 : r9 = p10 ++ r10), f10, h⟩ := zdo.step h
 obtain ⟨x11, r11, p11, (e11 : r10 = p11 ++ r11), f11, h⟩ := zdo.step h
 obtain ⟨x12, r12, p12, (e12 : r11 = p12 ++ r12), f12, h⟩ := zdo.step h
 obtain ⟨x13, r13, p13, (e13 : r12 = p13 ++ r13), f13, h⟩ := zdo.step h
 obtain ⟨x14, r14, p14, (e14 : r13 = p14 ++ r14), f14, h⟩ := (za0 .i64).step h
 obtain ⟨x15, r15, p15, (e15 : r14 = p15 ++ r15), f15, h⟩ := (za0 .i64).step h
 cases h
 exact ⟨(p0 ++ (p1 ++ (p2 ++ (p3 ++ (p4 ++ (p5 ++ (p6 ++ (p7 ++ (p8 ++ (p9 ++ (p10 ++ (p11 ++ (p12 ++ (p13 ++ (p14 ++ p15))))))))))))))), by rw [e0, e1, e2, e3, e4, e5, e6, e7, e8, e9, e10, e11, e12, e13, e14, e15]; simp only [List.append_assoc], (f0.append (f1.append (f2.append (f3.append (f4.append (f5.append (f6.append (f7.append (f8.append (f9.append (f10.append (f11.append (f12.append (f13.append (f14.append f15)))))))))))))))⟩
theorem zto : Sp (U := U) zpy zxj := fun l x r h => by
 unfold zpy at h
 obtain ⟨x0, r0, p0, e0, f0, h⟩ := (za0 .i64).step h
 obtain ⟨x1, r1, p1, (e1 : r0 = p1 ++ r1), f1, h⟩ := (za0 .i64).step h
 cases h
 exact ⟨(p0 ++ p1), by rw [e0, e1]; simp only [List.append_assoc], (f0.append f1)⟩
theorem zzh : Sp (U := U) zs0 zxe := fun l x r h => by
 unfold zs0 at h
 obtain ⟨x0, r0, p0, e0, f0, h⟩ := (za0 .i64).step h
 obtain ⟨x1, r1, p1, (e1 : r0 = p1 ++ r1), f1, h⟩ := zto.step h
 obtain ⟨x2, r2, p2, (e2 : r1 = p2 ++ r2), f2, h⟩ := (za0 .i64).step h
 cases h
 exact ⟨(p0 ++ (p1 ++ p2)), by rw [e0, e1, e2]; simp only [List.append_assoc], (f0.append (f1.append f2))⟩
theorem sp : ∀ t : Ty, Sp (U := U) (rd t) (enc t)
 | .int k => za0 k
 | .bool => zdo
 | .str => zme
 | .nil => z5c
 | .sl t => zjw t
 | .st 0 => zsq
 | .st 1 => zoe
 | .st 2 => zln
 | .st 3 => ztn
 | .st 4 => ztk
 | .st 5 => zpn
 | .st 6 => zj9
 | .st 7 => zva
 | .st 8 => zss
 | .st 9 => z0r
 | .st 10 => zqz
 | .st 11 => z0s
 | .st 12 => ztm
 | .st 13 => ztl
 | .st 14 => z2f
 | .st 15 => zv7
 | .st 16 => zv8
 | .st 17 => zsr
 | .st 18 => zv9
 | .st 19 => zqy
 | .st 20 => znr
 | .st 21 => zzi
 | .st 22 => ztj
 | .st 23 => zto
 | .st 24 => zzh
 | .st (_ + 25) => fun l x r h => by cases h
theorem z3f : ∀ (t : Ty) (x : den t), (enc t x).length = szT t
 | .int _, _ => rfl
 | .bool, _ => rfl
 | .str, _ => rfl
 | .nil, _ => rfl
 | .sl _, _ => rfl
 | .st 0, _ => rfl
 | .st 1, _ => rfl
 | .st 2, _ => rfl
 | .st 3, _ => rfl
 | .st 4, _ => rfl
 | .st 5, _ => rfl
 | .st 6, _ => rfl
 | .st 7, _ => rfl
 | .st 8, _ => rfl
 | .st 9, _ => rfl
 | .st 10, _ => rfl
 | .st 11, _ => rfl
 | .st 12, _ => rfl
 | .st 13, _ => rfl
 | .st 14, _ => rfl
 | .st 15, _ => rfl
 | .st 16, _ => rfl
 | .st 17, _ => rfl
 | .st 18, _ => rfl
 | .st 19, _ => rfl
 | .st 20, _ => rfl
 | .st 21, _ => rfl
 | .st 22, _ => rfl
 | .st 23, _ => rfl
 | .st 24, _ => rfl
 | .st (_ + 25), _ => rfl
theorem z5m : ∀ t : Ty, 0 < szT t
 | .int _ => Nat.one_pos
 | .bool => Nat.one_pos
 | .str => Nat.one_pos
 | .nil => Nat.one_pos
 | .sl _ => Nat.one_pos
 | .st 0 => (by decide : 0 < 2)
 | .st 1 => (by decide : 0 < 4)
 | .st 2 => (by decide : 0 < 2)
 | .st 3 => (by decide : 0 < 3)
 | .st 4 => (by decide : 0 < 2)
 | .st 5 => (by decide : 0 < 3)
 | .st 6 => (by decide : 0 < 3)
 | .st 7 => (by decide : 0 < 2)
 | .st 8 => (by decide : 0 < 27)
 | .st 9 => (by decide : 0 < 4)
 | .st 10 => (by decide : 0 < 4)
 | .st 11 => (by decide : 0 < 5)
 | .st 12 => (by decide : 0 < 2)
 | .st 13 => (by decide : 0 < 13)
 | .st 14 => (by decide : 0 < 1)
 | .st 15 => (by decide : 0 < 2)
 | .st 16 => (by decide : 0 < 10)
 | .st 17 => (by decide : 0 < 2)
 | .st 18 => (by decide : 0 < 4)
 | .st 19 => (by decide : 0 < 3)
 | .st 20 => (by decide : 0 < 5)
 | .st 21 => (by decide : 0 < 2)
 | .st 22 => (by decide : 0 < 16)
 | .st 23 => (by decide : 0 < 2)
 | .st 24 => (by decide : 0 < 4)
 | .st (_ + 25) => Nat.one_pos
theorem z6z : ∀ (t : Ty) (x : den t), (enc t x).all (fzc (U := U)) = true
 | .int _, _ => rfl
 | .bool, _ => rfl
 | .str, _ => rfl
 | .nil, _ => rfl
 | .sl _, _ => rfl
 | .st 0, _ => rfl
 | .st 1, _ => rfl
 | .st 2, _ => rfl
 | .st 3, _ => rfl
 | .st 4, _ => rfl
 | .st 5, _ => rfl
 | .st 6, _ => rfl
 | .st 7, _ => rfl
 | .st 8, _ => rfl
 | .st 9, _ => rfl
 | .st 10, _ => rfl
 | .st 11, _ => rfl
 | .st 12, _ => rfl
 | .st 13, _ => rfl
 | .st 14, _ => rfl
 | .st 15, _ => rfl
 | .st 16, _ => rfl
 | .st 17, _ => rfl
 | .st 18, _ => rfl
 | .st 19, _ => rfl
 | .st 20, _ => rfl
 | .st 21, _ => rfl
 | .st 22, _ => rfl
 | .st 23, _ => rfl
 | .st 24, _ => rfl
 | .st (_ + 25), _ => rfl
theorem z4t : ∀ t : Ty, z3p t = true → ∀ x : den t, (enc t x).all (z0t (U := U)) = true
 | .int _, _, _ => rfl
 | .bool, _, _ => rfl
 | .str, _, _ => rfl
 | .nil, _, _ => rfl
 | .sl _, h, _ => by cases h
 | .st 0, _, _ => rfl
 | .st 1, _, _ => rfl
 | .st 2, _, _ => rfl
 | .st 3, _, _ => rfl
 | .st 4, h, _ => by cases h
 | .st 5, _, _ => rfl
 | .st 6, _, _ => rfl
 | .st 7, _, _ => rfl
 | .st 8, _, _ => rfl
 | .st 9, _, _ => rfl
 | .st 10, h, _ => by cases h
 | .st 11, _, _ => rfl
 | .st 12, h, _ => by cases h
 | .st 13, h, _ => by cases h
 | .st 14, h, _ => by cases h
 | .st 15, _, _ => rfl
 | .st 16, _, _ => rfl
 | .st 17, h, _ => by cases h
 | .st 18, _, _ => rfl
 | .st 19, h, _ => by cases h
 | .st 20, h, _ => by cases h
 | .st 21, _, _ => rfl
 | .st 22, _, _ => rfl
 | .st 23, _, _ => rfl
 | .st 24, _, _ => rfl
 | .st (_ + 25), _, _ => rfl
theorem z5q : ∀ t : Ty, z57 t = false → szT t = 1
 | .int _, _ => rfl
 | .bool, _ => rfl
 | .str, _ => rfl
 | .nil, _ => rfl
 | .sl _, _ => rfl
 | .st _, h => by cases h
theorem zj2 : ELaws En where
 sz := z3f
 pos := z5m
 fz := fun t x c hc => z23 (zy5 (z6z t x) hc)
 one := z5q
 reify := fun t cs x h => by
  have h' : reify t cs = some x := h; unfold reify at h'; rw [Option.bind_eq_some_iff] at h'; obtain ⟨⟨y, r⟩, h1, h2⟩ := h'; cases r with
  | cons => cases h2
  | nil =>
   cases h2; obtain ⟨p, e, f⟩ := sp t cs _ _ h1; rw [List.append_nil] at e; subst e; exact ⟨f.length.trans (z3f t _), fun j c c' g1 g2 => f.get j c c' g1 g2⟩
 flat := fun t ht x c hc => zx0 (zy5 (z4t t ht x) hc)
 slAgg := fun _ => rfl
 slEnc := fun _ _ => rfl
 ofTo := fun _ _ => rfl
 u8sz := rfl
 u8 := fun x => ⟨x, rfl⟩
 toInts := fun xs i x n h1 h2 => by cases h2; exact h1
 toIntsLen := fun _ => rfl
 ofInts := fun l i n h => ⟨n, h, rfl⟩
 ofIntsLen := fun _ => rfl
theorem zvx {O : List (Nat × Ct U)} {X : List (Nat × Nat)} {J : List (Nat × Amx.Spec U × List Ty)} {pre : List (Nat × List Nat)} {lits ro pk bj : List Nat} : CLaws (zom O X J pre lits ro pk bj) :=
 z27 zj2 (l := z3l) rfl (by kernel_rfl)
def ctv (ps : List (Md U)) (res outs : List Ty) (fr : List Nat) (ts : List Ty) (f : Fnc U ts (PT U (res ++ outs))) : Ct U := { params := ps, results := res, outs := outs, fresh := fr, fn := app U ts f }
def cvv (res ts : List Ty) (f : Fnc U ts (PT U (res ++ []))) : Ct U := ctv (ts.map .val) res [] [] ts f
def K0 : Ctx U := zom [] [] [] [] [] [] [] []
@[reducible] def Kq : Type := Kp K0
structure Cf where
 X : List (Nat × Nat) := []
 J : List (Nat × Amx.Spec U × List Ty) := []
 pre : List (Nat × List Nat) := []
 lits : List Nat := []
 ro : List Nat := []
 pk : List Nat := []
 bj : List Nat := []
def cxo (l : List Kq) (c : Cf) : Ctx U := zom (Osk l) c.X c.J c.pre c.lits c.ro c.pk c.bj
theorem go (l : List Kq) (c : Cf) {f : FuncId} {fn : Func} {ps : List (Md U)} {res outs : List Ty} {fr : List Nat} {ts : List Ty} {F : Fnc U ts (PT U (res ++ outs))} (L : List (Nat × Cut U (PT U ((ctv ps res outs fr ts F).results ++ (ctv ps res outs fr ts F).outs)))) (hf : Proofs.Tryz.prog.funcs[f]? = some fn) (hn : ((fn.name == "runtime.NumGoroutine") || !fn.body.isSome) = false := by kernel_rfl)
 (hok : zuc (cxo l c) (ctv ps res outs fr ts F) = fun _ => true := by kernel_rfl) (hr : (cur ts (z2i (cxo l c) fn (ctv ps res outs fr ts F) (pick L)) : Fnc U ts (PT U (res ++ outs))) = F := by kernel_rfl) (hL : Ls (cxo l c) fn (ctv ps res outs fr ts F) (pick L) L := by exact trivial) (hX : ∀ p ∈ c.X, z58 Proofs.Tryz.prog p := by exact all_nil) : zhh K0 f (ctv ps res outs fr ts F) := by
 rw [Bool.or_eq_false_iff] at hn
 exact zhh.ctx (C := cxo l c) (C' := K0) rfl rfl rfl (z1g (C := cxo l c) zvx (z6r (C := cxo l c) (C0 := K0) (l := l) rfl rfl rfl rfl) (zv0 (l := c.X) rfl hX) hf hn.1 (by simpa using hn.2) (z5s rfl hL) (fun y => congrFun hok y) (z40 hr))
end
end Go.Proofs.YtblgefddnnlniaaGreatDoor.M
