/- The program's types, and their cells. -/
import Derived.Test.YtnpfkhdbmlhfhaaGreatDoorA4
import Derived.Test.YtnpfkhdbmlhfhaaGreatDoorShelf
import Derived.KernelRfl
namespace Go.Proofs.YtnpfkhdbmlhfhaaGreatDoor.M
open Go Go.Amx
set_option linter.unusedVariables false
set_option maxRecDepth 100000
noncomputable section
structure zT where
 fields : Int
 types : Int
structure zZ where
 x : Int
 y : Int
 signed : Bool
 code : Int
structure zW where
 msg : ByteArray
 addr : Int
structure zL where
 Registers : Int
 yC : Bool
 yB : Bool
structure Storage where
 Bytes : ByteArray
 Tags : List Bool
structure zM where
 Based : Bool
 Pointer : Int
 Offset : Int
structure DataType where
 Kind : Int
 Length : Int
 Scale : Int
structure Number where
 N : Int
 Scale : Int
structure zC where
 Op : Int
 R : Int
 A : Int
 B : Int
 zS : Int
 Place : zM
 From : zM
 zG : DataType
 Second : DataType
 Half : Bool
 zO : Bool
 Number : Number
 Text : ByteArray
 Other : ByteArray
 Mask : Int
 Target : Int
 Pointer : Int
 Source : Int
structure zR where
 From : Int
 To : Int
 Exception : Int
 Handler : Int
structure zI where
 Storage : Storage
 zA : List zC
 zV : List zR
structure zF where
 Register : Int
 zG : DataType
 Offset : Int
structure zX where
 Facts : List (List zF)
 Index : List Int
structure Value where
 N : Int
 S : ByteArray
structure zH where
 Name : ByteArray
 Kind : Int
 zG : DataType
 Value : Value
 Base : ByteArray
 Offset : Int
 Target : Int
structure zK where
 Op : Int
 Args : List Int
structure zU where
 From : Int
 To : Int
 Exception : Int
 Handler : Int
structure zD where
 zB : List zH
 zA : List zK
 zP : List zU
structure zY where
 Starts : List Int
structure Translation where
 Model : zL
 Code : zI
 Map : zY
structure Optimization where
 Model : zL
 Before : zI
 After : zI
 Proof : zX
structure zJ where
 zD : zD
 layout : List Int
 code : List zC
structure zQ where
 Part : Int
 Index : Int
structure zN where
 R : Bool
 A : Bool
 B : Bool
 Place : Bool
 From : Bool
 Half : Bool
 Number : Bool
 zS : Bool
 Mask : Bool
 Target : Bool
 Text : Bool
 Other : Bool
 Pointer : Bool
 Source : Bool
 zG : Int
 Second : Int
structure Address where
 yA : Int
 Offset : Int
structure Pointer where
 Kind : Int
 Address : Address
 Authority : Int
inductive Ty where
 | int (k : IntKind)
 | bool
 | str
 | nil
 | sl (t : Ty)
 | st (n : Nat)
@[reducible] def z14 : Nat → Type
 | 0 => zT
 | 1 => zZ
 | 2 => zW
 | 3 => zL
 | 4 => Storage
 | 5 => zM
 | 6 => DataType
 | 7 => Number
 | 8 => zC
 | 9 => zR
 | 10 => zI
 | 11 => zF
 | 12 => zX
 | 13 => Value
 | 14 => zH
 | 15 => zK
 | 16 => zU
 | 17 => zD
 | 18 => zY
 | 19 => Translation
 | 20 => Optimization
 | 21 => zJ
 | 22 => zQ
 | 23 => zN
 | 24 => Address
 | 25 => Pointer
 | _ + 26 => Unit
@[reducible] def den : Ty → Type
 | .int _ => Int
 | .bool => Bool
 | .str => ByteArray
 | .nil => Unit
 | .sl t => List (den t)
 | .st n => z14 n
def eqTy : (a b : Ty) → Option (PLift (a = b))
 | .int j, .int k => if h : j = k then some ⟨by rw [h]⟩ else none
 | .bool, .bool => some ⟨rfl⟩
 | .str, .str => some ⟨rfl⟩
 | .nil, .nil => some ⟨rfl⟩
 | .sl a, .sl b => match eqTy a b with
  | some ⟨h⟩ => some ⟨by rw [h]⟩
  | none => none
 | .st i, .st j => if h : i = j then some ⟨by rw [h]⟩ else none
 | _, _ => none
@[reducible] def U : Uni := { Ty := Ty, den := den, eqTy := eqTy }
@[reducible] def T6 : Ty := Ty.int .i64
def w6 (n : Int) : Int := IntKind.wrap .i64 n
@[reducible] def Ty.zT : Ty := .st 0
@[reducible] def Ty.zZ : Ty := .st 1
@[reducible] def Ty.zW : Ty := .st 2
@[reducible] def Ty.zL : Ty := .st 3
@[reducible] def Ty.Storage : Ty := .st 4
@[reducible] def Ty.zM : Ty := .st 5
@[reducible] def Ty.DataType : Ty := .st 6
@[reducible] def Ty.Number : Ty := .st 7
@[reducible] def Ty.zC : Ty := .st 8
@[reducible] def Ty.zR : Ty := .st 9
@[reducible] def Ty.zI : Ty := .st 10
@[reducible] def Ty.zF : Ty := .st 11
@[reducible] def Ty.zX : Ty := .st 12
@[reducible] def Ty.Value : Ty := .st 13
@[reducible] def Ty.zH : Ty := .st 14
@[reducible] def Ty.zK : Ty := .st 15
@[reducible] def Ty.zU : Ty := .st 16
@[reducible] def Ty.zD : Ty := .st 17
@[reducible] def Ty.zY : Ty := .st 18
@[reducible] def Ty.Translation : Ty := .st 19
@[reducible] def Ty.Optimization : Ty := .st 20
@[reducible] def Ty.zJ : Ty := .st 21
@[reducible] def Ty.zQ : Ty := .st 22
@[reducible] def Ty.zN : Ty := .st 23
@[reducible] def Ty.Address : Ty := .st 24
@[reducible] def Ty.Pointer : Ty := .st 25
def zcy (k : IntKind) : List (AV U) → Option (Int × List (AV U))
 | .sc (.int k' n) :: l => if k = k' then some (n, l) else none
 | _ => none
def zf1 : List (AV U) → Option (Bool × List (AV U))
 | .sc (.bool b) :: l => some (b, l)
 | _ => none
def zp3 : List (AV U) → Option (ByteArray × List (AV U))
 | .sc (.string s) :: l => some (s, l)
 | _ => none
def z5w : List (AV U) → Option (Unit × List (AV U))
 | .sc (.slice none 0 0) :: l => some ((), l)
 | _ => none
def rSl (t : Ty) : List (AV U) → Option (List (den t) × List (AV U))
 | .lst t' xs :: l => (U.eqTy t' t).map fun e => (zr8 e xs, l)
 | .sc (.slice none 0 0) :: l => some ([], l)
 | _ => none
def zmw (l : List (AV U)) : Option (zT × List (AV U)) := (zcy .i64 l).bind fun x0 => (zcy .i64 x0.2).bind fun x1 => some (⟨x0.1, x1.1⟩, x1.2)
def zjm (l : List (AV U)) : Option (zZ × List (AV U)) := (zcy .i64 l).bind fun x0 => (zcy .i64 x0.2).bind fun x1 => (zf1 x1.2).bind fun x2 => (zcy .u8 x2.2).bind fun x3 => some (⟨x0.1, x1.1, x2.1, x3.1⟩, x3.2)
def zgy (l : List (AV U)) : Option (zW × List (AV U)) := (zp3 l).bind fun x0 => (zcy .u64 x0.2).bind fun x1 => some (⟨x0.1, x1.1⟩, x1.2)
def zos (l : List (AV U)) : Option (zL × List (AV U)) := (zcy .i64 l).bind fun x0 => (zf1 x0.2).bind fun x1 => (zf1 x1.2).bind fun x2 => some (⟨x0.1, x1.1, x2.1⟩, x2.2)
def zre (l : List (AV U)) : Option (Storage × List (AV U)) := (zp3 l).bind fun x0 => (rSl Ty.bool x0.2).bind fun x1 => some (⟨x0.1, x1.1⟩, x1.2)
def zor (l : List (AV U)) : Option (zM × List (AV U)) := (zf1 l).bind fun x0 => (zcy .i64 x0.2).bind fun x1 => (zcy .i64 x1.2).bind fun x2 => some (⟨x0.1, x1.1, x2.1⟩, x2.2)
def zkh (l : List (AV U)) : Option (DataType × List (AV U)) := (zcy .i64 l).bind fun x0 => (zcy .i64 x0.2).bind fun x1 => (zcy .i64 x1.2).bind fun x2 => some (⟨x0.1, x1.1, x2.1⟩, x2.2)
def zto (l : List (AV U)) : Option (Number × List (AV U)) := (zcy .i64 l).bind fun x0 => (zcy .i64 x0.2).bind fun x1 => some (⟨x0.1, x1.1⟩, x1.2)
def zm0 (l : List (AV U)) : Option (zC × List (AV U)) := (zcy .i64 l).bind fun x0 => (zcy .i64 x0.2).bind fun x1 => (zcy .i64 x1.2).bind fun x2 => (zcy .i64 x2.2).bind fun x3 => (zcy .i64 x3.2).bind fun x4 => (zor x4.2).bind fun x5 => (zor x5.2).bind fun x6 => (zkh x6.2).bind fun x7 => (zkh x7.2).bind fun x8 => (zf1 x8.2).bind fun x9 => (zf1 x9.2).bind fun x10 => (zto x10.2).bind fun x11 => (zp3 x11.2).bind fun x12 => (zp3 x12.2).bind fun x13 => (zcy .i64 x13.2).bind fun x14 => (zcy .i64 x14.2).bind fun x15 => (zcy .i64 x15.2).bind fun x16 => (zcy .i64 x16.2).bind fun x17 => some (⟨x0.1, x1.1, x2.1, x3.1, x4.1, x5.1, x6.1, x7.1, x8.1, x9.1, x10.1, x11.1, x12.1, x13.1, x14.1, x15.1, x16.1, x17.1⟩, x17.2)
def zwm (l : List (AV U)) : Option (zR × List (AV U)) := (zcy .i64 l).bind fun x0 => (zcy .i64 x0.2).bind fun x1 => (zcy .i64 x1.2).bind fun x2 => (zcy .i64 x2.2).bind fun x3 => some (⟨x0.1, x1.1, x2.1, x3.1⟩, x3.2)
def zoh (l : List (AV U)) : Option (zI × List (AV U)) := (zre l).bind fun x0 => (rSl Ty.zC x0.2).bind fun x1 => (rSl Ty.zR x1.2).bind fun x2 => some (⟨x0.1, x1.1, x2.1⟩, x2.2)
def zwn (l : List (AV U)) : Option (zF × List (AV U)) := (zcy .i64 l).bind fun x0 => (zkh x0.2).bind fun x1 => (zcy .i64 x1.2).bind fun x2 => some (⟨x0.1, x1.1, x2.1⟩, x2.2)
def zrh (l : List (AV U)) : Option (zX × List (AV U)) := (rSl (Ty.sl Ty.zF) l).bind fun x0 => (rSl (Ty.int .i64) x0.2).bind fun x1 => some (⟨x0.1, x1.1⟩, x1.2)
def zvq (l : List (AV U)) : Option (Value × List (AV U)) := (zcy .i64 l).bind fun x0 => (zp3 x0.2).bind fun x1 => some (⟨x0.1, x1.1⟩, x1.2)
def zrf (l : List (AV U)) : Option (zH × List (AV U)) := (zp3 l).bind fun x0 => (zcy .i64 x0.2).bind fun x1 => (zkh x1.2).bind fun x2 => (zvq x2.2).bind fun x3 => (zp3 x3.2).bind fun x4 => (zcy .i64 x4.2).bind fun x5 => (zcy .i64 x5.2).bind fun x6 => some (⟨x0.1, x1.1, x2.1, x3.1, x4.1, x5.1, x6.1⟩, x6.2)
def zmz (l : List (AV U)) : Option (zK × List (AV U)) := (zcy .i64 l).bind fun x0 => (rSl (Ty.int .i64) x0.2).bind fun x1 => some (⟨x0.1, x1.1⟩, x1.2)
def zrg (l : List (AV U)) : Option (zU × List (AV U)) := (zcy .i64 l).bind fun x0 => (zcy .i64 x0.2).bind fun x1 => (zcy .i64 x1.2).bind fun x2 => (zcy .i64 x2.2).bind fun x3 => some (⟨x0.1, x1.1, x2.1, x3.1⟩, x3.2)
def zn8 (l : List (AV U)) : Option (zD × List (AV U)) := (rSl Ty.zH l).bind fun x0 => (rSl Ty.zK x0.2).bind fun x1 => (rSl Ty.zU x1.2).bind fun x2 => some (⟨x0.1, x1.1, x2.1⟩, x2.2)
def zvr (l : List (AV U)) : Option (zY × List (AV U)) := (rSl (Ty.int .i64) l).bind fun x0 => some (⟨x0.1⟩, x0.2)
def zoq (l : List (AV U)) : Option (Translation × List (AV U)) := (zos l).bind fun x0 => (zoh x0.2).bind fun x1 => (zvr x1.2).bind fun x2 => some (⟨x0.1, x1.1, x2.1⟩, x2.2)
def zny (l : List (AV U)) : Option (Optimization × List (AV U)) := (zos l).bind fun x0 => (zoh x0.2).bind fun x1 => (zoh x1.2).bind fun x2 => (zrh x2.2).bind fun x3 => some (⟨x0.1, x1.1, x2.1, x3.1⟩, x3.2)
def zi6 (l : List (AV U)) : Option (zJ × List (AV U)) := (zn8 l).bind fun x0 => (rSl (Ty.int .i64) x0.2).bind fun x1 => (rSl Ty.zC x1.2).bind fun x2 => some (⟨x0.1, x1.1, x2.1⟩, x2.2)
def zut (l : List (AV U)) : Option (zQ × List (AV U)) := (zcy .i64 l).bind fun x0 => (zcy .i64 x0.2).bind fun x1 => some (⟨x0.1, x1.1⟩, x1.2)
def znx (l : List (AV U)) : Option (zN × List (AV U)) := (zf1 l).bind fun x0 => (zf1 x0.2).bind fun x1 => (zf1 x1.2).bind fun x2 => (zf1 x2.2).bind fun x3 => (zf1 x3.2).bind fun x4 => (zf1 x4.2).bind fun x5 => (zf1 x5.2).bind fun x6 => (zf1 x6.2).bind fun x7 => (zf1 x7.2).bind fun x8 => (zf1 x8.2).bind fun x9 => (zf1 x9.2).bind fun x10 => (zf1 x10.2).bind fun x11 => (zf1 x11.2).bind fun x12 => (zf1 x12.2).bind fun x13 => (zcy .i64 x13.2).bind fun x14 => (zcy .i64 x14.2).bind fun x15 => some (⟨x0.1, x1.1, x2.1, x3.1, x4.1, x5.1, x6.1, x7.1, x8.1, x9.1, x10.1, x11.1, x12.1, x13.1, x14.1, x15.1⟩, x15.2)
def zri (l : List (AV U)) : Option (Address × List (AV U)) := (zcy .i64 l).bind fun x0 => (zcy .i64 x0.2).bind fun x1 => some (⟨x0.1, x1.1⟩, x1.2)
def zus (l : List (AV U)) : Option (Pointer × List (AV U)) := (zcy .i64 l).bind fun x0 => (zri x0.2).bind fun x1 => (zcy .i64 x1.2).bind fun x2 => some (⟨x0.1, x1.1, x2.1⟩, x2.2)
def zqp (x : zT) : List (AV U) := [.sc (.int .i64 x.fields), .sc (.int .i64 x.types)]
def zml (x : zZ) : List (AV U) := [.sc (.int .i64 x.x), .sc (.int .i64 x.y), .sc (.bool x.signed), .sc (.int .u8 x.code)]
def zjh (x : zW) : List (AV U) := [.sc (.string x.msg), .sc (.int .u64 x.addr)]
def zz0 (x : zL) : List (AV U) := [.sc (.int .i64 x.Registers), .sc (.bool x.yC), .sc (.bool x.yB)]
def zzv (x : Storage) : List (AV U) := [.sc (.string x.Bytes), .lst Ty.bool x.Tags]
def zzz (x : zM) : List (AV U) := [.sc (.bool x.Based), .sc (.int .i64 x.Pointer), .sc (.int .i64 x.Offset)]
def zxk (x : DataType) : List (AV U) := [.sc (.int .i64 x.Kind), .sc (.int .i64 x.Length), .sc (.int .i64 x.Scale)]
def z1f (x : Number) : List (AV U) := [.sc (.int .i64 x.N), .sc (.int .i64 x.Scale)]
def zhs (x : zC) : List (AV U) := [.sc (.int .i64 x.Op), .sc (.int .i64 x.R), .sc (.int .i64 x.A), .sc (.int .i64 x.B), .sc (.int .i64 x.zS), .sc (.bool x.Place.Based), .sc (.int .i64 x.Place.Pointer), .sc (.int .i64 x.Place.Offset), .sc (.bool x.From.Based), .sc (.int .i64 x.From.Pointer), .sc (.int .i64 x.From.Offset), .sc (.int .i64 x.zG.Kind), .sc (.int .i64 x.zG.Length), .sc (.int .i64 x.zG.Scale), .sc (.int .i64 x.Second.Kind), .sc (.int .i64 x.Second.Length), .sc (.int .i64 x.Second.Scale), .sc (.bool x.Half), .sc (.bool x.zO), .sc (.int .i64 x.Number.N), .sc (.int .i64 x.Number.Scale), .sc (.string x.Text), .sc (.string x.Other), .sc (.int .i64 x.Mask), .sc (.int .i64 x.Target), .sc (.int .i64 x.Pointer), .sc (.int .i64 x.Source)]
def z1g (x : zR) : List (AV U) := [.sc (.int .i64 x.From), .sc (.int .i64 x.To), .sc (.int .i64 x.Exception), .sc (.int .i64 x.Handler)]
def zie (x : zI) : List (AV U) := [.sc (.string x.Storage.Bytes), .lst Ty.bool x.Storage.Tags, .lst Ty.zC x.zA, .lst Ty.zR x.zV]
def zqr (x : zF) : List (AV U) := [.sc (.int .i64 x.Register), .sc (.int .i64 x.zG.Kind), .sc (.int .i64 x.zG.Length), .sc (.int .i64 x.zG.Scale), .sc (.int .i64 x.Offset)]
def zzy (x : zX) : List (AV U) := [.lst (Ty.sl Ty.zF) x.Facts, .lst (Ty.int .i64) x.Index]
def z4q (x : Value) : List (AV U) := [.sc (.int .i64 x.N), .sc (.string x.S)]
def zv5 (x : zH) : List (AV U) := [.sc (.string x.Name), .sc (.int .i64 x.Kind), .sc (.int .i64 x.zG.Kind), .sc (.int .i64 x.zG.Length), .sc (.int .i64 x.zG.Scale), .sc (.int .i64 x.Value.N), .sc (.string x.Value.S), .sc (.string x.Base), .sc (.int .i64 x.Offset), .sc (.int .i64 x.Target)]
def zk1 (x : zK) : List (AV U) := [.sc (.int .i64 x.Op), .lst (Ty.int .i64) x.Args]
def zv6 (x : zU) : List (AV U) := [.sc (.int .i64 x.From), .sc (.int .i64 x.To), .sc (.int .i64 x.Exception), .sc (.int .i64 x.Handler)]
def zim (x : zD) : List (AV U) := [.lst Ty.zH x.zB, .lst Ty.zK x.zA, .lst Ty.zU x.zP]
def z4r (x : zY) : List (AV U) := [.lst (Ty.int .i64) x.Starts]
def zmm (x : Translation) : List (AV U) := [.sc (.int .i64 x.Model.Registers), .sc (.bool x.Model.yC), .sc (.bool x.Model.yB), .sc (.string x.Code.Storage.Bytes), .lst Ty.bool x.Code.Storage.Tags, .lst Ty.zC x.Code.zA, .lst Ty.zR x.Code.zV, .lst (Ty.int .i64) x.Map.Starts]
def zsh (x : Optimization) : List (AV U) := [.sc (.int .i64 x.Model.Registers), .sc (.bool x.Model.yC), .sc (.bool x.Model.yB), .sc (.string x.Before.Storage.Bytes), .lst Ty.bool x.Before.Storage.Tags, .lst Ty.zC x.Before.zA, .lst Ty.zR x.Before.zV, .sc (.string x.After.Storage.Bytes), .lst Ty.bool x.After.Storage.Tags, .lst Ty.zC x.After.zA, .lst Ty.zR x.After.zV, .lst (Ty.sl Ty.zF) x.Proof.Facts, .lst (Ty.int .i64) x.Proof.Index]
def zl7 (x : zJ) : List (AV U) := [.lst Ty.zH x.zD.zB, .lst Ty.zK x.zD.zA, .lst Ty.zU x.zD.zP, .lst (Ty.int .i64) x.layout, .lst Ty.zC x.code]
def zzx (x : zQ) : List (AV U) := [.sc (.int .i64 x.Part), .sc (.int .i64 x.Index)]
def zsg (x : zN) : List (AV U) := [.sc (.bool x.R), .sc (.bool x.A), .sc (.bool x.B), .sc (.bool x.Place), .sc (.bool x.From), .sc (.bool x.Half), .sc (.bool x.Number), .sc (.bool x.zS), .sc (.bool x.Mask), .sc (.bool x.Target), .sc (.bool x.Text), .sc (.bool x.Other), .sc (.bool x.Pointer), .sc (.bool x.Source), .sc (.int .i64 x.zG), .sc (.int .i64 x.Second)]
def zz1 (x : Address) : List (AV U) := [.sc (.int .i64 x.yA), .sc (.int .i64 x.Offset)]
def zzw (x : Pointer) : List (AV U) := [.sc (.int .i64 x.Kind), .sc (.int .i64 x.Address.yA), .sc (.int .i64 x.Address.Offset), .sc (.int .i64 x.Authority)]
def zaa2 : (n : Nat) → z14 n → List (AV U)
 | 0, x => zqp x
 | 1, x => zml x
 | 2, x => zjh x
 | 3, x => zz0 x
 | 4, x => zzv x
 | 5, x => zzz x
 | 6, x => zxk x
 | 7, x => z1f x
 | 8, x => zhs x
 | 9, x => z1g x
 | 10, x => zie x
 | 11, x => zqr x
 | 12, x => zzy x
 | 13, x => z4q x
 | 14, x => zv5 x
 | 15, x => zk1 x
 | 16, x => zv6 x
 | 17, x => zim x
 | 18, x => z4r x
 | 19, x => zmm x
 | 20, x => zsh x
 | 21, x => zl7 x
 | 22, x => zzx x
 | 23, x => zsg x
 | 24, x => zz1 x
 | 25, x => zzw x
 | _ + 26, _ => [.sc (.bool true)]
def rdSt : (n : Nat) → List (AV U) → Option (z14 n × List (AV U))
 | 0, l => zmw l
 | 1, l => zjm l
 | 2, l => zgy l
 | 3, l => zos l
 | 4, l => zre l
 | 5, l => zor l
 | 6, l => zkh l
 | 7, l => zto l
 | 8, l => zm0 l
 | 9, l => zwm l
 | 10, l => zoh l
 | 11, l => zwn l
 | 12, l => zrh l
 | 13, l => zvq l
 | 14, l => zrf l
 | 15, l => zmz l
 | 16, l => zrg l
 | 17, l => zn8 l
 | 18, l => zvr l
 | 19, l => zoq l
 | 20, l => zny l
 | 21, l => zi6 l
 | 22, l => zut l
 | 23, l => znx l
 | 24, l => zri l
 | 25, l => zus l
 | _ + 26, _ => none
def enc : (t : Ty) → den t → List (AV U)
 | .int k, n => [.sc (.int k n)]
 | .bool, b => [.sc (.bool b)]
 | .str, s => [.sc (.string s)]
 | .nil, _ => [.sc (.slice none 0 0)]
 | .sl t, xs => [.lst t xs]
 | .st n, x => zaa2 n x
def rd : (t : Ty) → List (AV U) → Option (den t × List (AV U))
 | .int k, l => zcy k l
 | .bool, l => zf1 l
 | .str, l => zp3 l
 | .nil, l => z5w l
 | .sl t, l => rSl t l
 | .st n, l => rdSt n l
def reify (t : Ty) (l : List (AV U)) : Option (den t) := (rd t l).bind fun r => match r.2 with
 | [] => some r.1
 | _ => none
def szSt : Nat → Nat
 | 0 => 2
 | 1 => 4
 | 2 => 2
 | 3 => 3
 | 4 => 2
 | 5 => 3
 | 6 => 3
 | 7 => 2
 | 8 => 27
 | 9 => 4
 | 10 => 4
 | 11 => 5
 | 12 => 2
 | 13 => 2
 | 14 => 10
 | 15 => 2
 | 16 => 4
 | 17 => 3
 | 18 => 1
 | 19 => 8
 | 20 => 13
 | 21 => 5
 | 22 => 2
 | 23 => 16
 | 24 => 2
 | 25 => 4
 | _ + 26 => 1
def z9t : Nat → Bool
 | 0 => true
 | 1 => true
 | 2 => true
 | 3 => true
 | 4 => false
 | 5 => true
 | 6 => true
 | 7 => true
 | 8 => true
 | 9 => true
 | 10 => false
 | 11 => true
 | 12 => false
 | 13 => true
 | 14 => true
 | 15 => false
 | 16 => true
 | 17 => false
 | 18 => false
 | 19 => false
 | 20 => false
 | 21 => false
 | 22 => true
 | 23 => true
 | 24 => true
 | 25 => true
 | _ + 26 => true
def szT : Ty → Nat
 | .st n => szSt n
 | _ => 1
def z9w : Ty → Bool
 | .st _ => true
 | _ => false
def z61 : Ty → Bool
 | .sl _ => false
 | .st n => z9t n
 | _ => true
def z6y : List (Nat × Ty) := [(2, (Ty.int .i64)), (3, (Ty.int .i64)), (4, Ty.bool), (5, (Ty.int .u8)), (6, (Ty.int .u8)), (8, Ty.zZ), (9, Ty.str), (10, Ty.str), (11, Ty.str), (12, (Ty.int .u64)), (14, Ty.zW), (21, (Ty.int .i32)), (23, Ty.zL), (24, (Ty.sl Ty.bool)), (26, Ty.Storage), (27, (Ty.sl Ty.zC)), (28, (Ty.sl Ty.zR)), (30, Ty.zI), (33, (Ty.sl (Ty.sl Ty.zF))), (34, (Ty.int .i64)), (43, (Ty.sl (Ty.int .i64))), (45, Ty.zX), (49, Ty.zM), (51, Ty.DataType), (53, Ty.Number), (55, Ty.zC), (56, (Ty.sl Ty.zH)), (57, (Ty.sl Ty.zK)), (58, (Ty.sl Ty.zU)), (60, Ty.zD), (62, Ty.zY), (64, Ty.Translation), (75, Ty.Optimization), (88, (Ty.sl Ty.zF)), (97, Ty.zF), (107, Ty.Value), (109, Ty.zH), (111, Ty.zK), (123, Ty.zR), (129, Ty.zU), (141, Ty.zJ), (158, (Ty.sl (Ty.int .i64))), (160, Ty.zQ), (182, (Ty.sl (Ty.int .u8))), (194, Ty.zN), (226, Ty.Address), (228, Ty.Pointer), (234, Ty.zT), (252, (Ty.int .u64)), (287, (Ty.int .u32)), (290, (Ty.int .u64)), (303, (Ty.int .i64)), (312, (Ty.int .u64)), (324, (Ty.int .u8)), (325, (Ty.int .u8)), (327, (Ty.int .i32)), (328, (Ty.int .i32))]
def En : Enc U := { sz := szT, agg := z9w, flat := z61, enc := enc, reify := reify, ofGo := pick z6y, sl := Ty.sl, toSl := fun _ xs => xs, ofSl := fun _ xs => xs, u8 := .int .u8, ofInts := fun l => l, toInts := fun l => l }
def zpp : List (List Int) := [[0, 4], [2, 3], [2, 3, 3], [2, 3, 3], [2, 3, 3], [2, 3, 3], [2, 3, 3], [1, 4, 6], [1, 4, 6], [6], [5, 0], [5, 5], [5, 3], [6], [], [3], [2], [1], []]
def z2u : List zT := [⟨41, 1⟩, ⟨169, 1⟩, ⟨257, 0⟩, ⟨3, 0⟩, ⟨32807, 1⟩, ⟨6, 0⟩, ⟨6144, 0⟩, ⟨6150, 0⟩, ⟨4096, 0⟩, ⟨120, 2⟩, ⟨552, 2⟩, ⟨120, 2⟩, ⟨552, 2⟩, ⟨1536, 0⟩, ⟨8232, 3⟩, ⟨24576, 0⟩, ⟨8193, 0⟩, ⟨8192, 0⟩, ⟨4096, 0⟩, ⟨0, 0⟩, ⟨1, 0⟩, ⟨1, 0⟩, ⟨1, 0⟩, ⟨40, 2⟩, ⟨512, 0⟩, ⟨0, 0⟩, ⟨0, 0⟩]
def globs : List (Nat × AV U) := [(0, .rarr (Ty.sl (Ty.int .i64)) zpp), (1, .rarr Ty.zT z2u)]
def zqa (O : List (Nat × Ct U)) (X : List (Nat × Nat)) (J : List (Nat × Amx.Spec U × List Ty)) (pre : List (Nat × List Nat)) (lits ro pk bj : List Nat) : Ctx U :=
 { P := Proofs.Tryz.prog, En := En, G := pick globs, O := pick O, X := pick X, joins := pick J, pre := fun r => (pick pre r).getD [], lits := lits, ro := ro, pk := pk, bj := bj }
theorem za6 (k : IntKind) : Sp (U := U) (zcy k) (fun n : Int => [.sc (.int k n)]) := fun l x r h => by
 unfold zcy at h
 split at h
 · split at h
   · rename_i e; cases h; subst e; exact ⟨[_], rfl, F2.refl_ref _⟩
   · cases h
 · cases h
theorem zd4 : Sp (U := U) zf1 (fun b : Bool => [.sc (.bool b)]) := fun l x r h => by
 unfold zf1 at h
 split at h
 · cases h; exact ⟨[_], rfl, F2.refl_ref _⟩
 · cases h
theorem znl : Sp (U := U) zp3 (fun s : ByteArray => [.sc (.string s)]) := fun l x r h => by
 unfold zp3 at h
 split at h
 · cases h; exact ⟨[_], rfl, F2.refl_ref _⟩
 · cases h
theorem z8t : Sp (U := U) z5w (fun _ : Unit => [.sc (.slice none 0 0)]) := fun l x r h => by
 unfold z5w at h
 split at h
 · cases h; exact ⟨[_], rfl, F2.refl_ref _⟩
 · cases h
theorem zkv (t : Ty) : Sp (U := U) (rSl t) (fun xs : List (den t) => [.lst t xs]) := fun l x r h => by
 unfold rSl at h
 split at h
 · rw [Option.map_eq_some_iff] at h; obtain ⟨⟨e⟩, _, h2⟩ := h; cases e; cases h2; exact ⟨[_], rfl, F2.refl_ref _⟩
 · cases h; exact ⟨[_], rfl, .cons (.inr ⟨rfl, _, rfl⟩) .nil⟩
 · cases h
theorem zuj : Sp (U := U) zmw zqp := fun l x r h => by
 unfold zmw at h
 obtain ⟨x0, r0, p0, e0, f0, h⟩ := (za6 .i64).step h
 obtain ⟨x1, r1, p1, (e1 : r0 = p1 ++ r1), f1, h⟩ := (za6 .i64).step h
 cases h
 exact ⟨(p0 ++ p1), by rw [e0, e1]; simp only [List.append_assoc], (f0.append f1)⟩
theorem zp0 : Sp (U := U) zjm zml := fun l x r h => by
 unfold zjm at h
 obtain ⟨x0, r0, p0, e0, f0, h⟩ := (za6 .i64).step h
 obtain ⟨x1, r1, p1, (e1 : r0 = p1 ++ r1), f1, h⟩ := (za6 .i64).step h
 obtain ⟨x2, r2, p2, (e2 : r1 = p2 ++ r2), f2, h⟩ := zd4.step h
 obtain ⟨x3, r3, p3, (e3 : r2 = p3 ++ r3), f3, h⟩ := (za6 .u8).step h
 cases h
 exact ⟨(p0 ++ (p1 ++ (p2 ++ p3))), by rw [e0, e1, e2, e3]; simp only [List.append_assoc], (f0.append (f1.append (f2.append f3)))⟩
theorem zms : Sp (U := U) zgy zjh := fun l x r h => by
 unfold zgy at h
 obtain ⟨x0, r0, p0, e0, f0, h⟩ := znl.step h
 obtain ⟨x1, r1, p1, (e1 : r0 = p1 ++ r1), f1, h⟩ := (za6 .u64).step h
 cases h
 exact ⟨(p0 ++ p1), by rw [e0, e1]; simp only [List.append_assoc], (f0.append f1)⟩
theorem zq7 : Sp (U := U) zos zz0 := fun l x r h => by
 unfold zos at h
 obtain ⟨x0, r0, p0, e0, f0, h⟩ := (za6 .i64).step h
 obtain ⟨x1, r1, p1, (e1 : r0 = p1 ++ r1), f1, h⟩ := zd4.step h
 obtain ⟨x2, r2, p2, (e2 : r1 = p2 ++ r2), f2, h⟩ := zd4.step h
 cases h
 exact ⟨(p0 ++ (p1 ++ p2)), by rw [e0, e1, e2]; simp only [List.append_assoc], (f0.append (f1.append f2))⟩
theorem zvb : Sp (U := U) zre zzv := fun l x r h => by
 unfold zre at h
 obtain ⟨x0, r0, p0, e0, f0, h⟩ := znl.step h
 obtain ⟨x1, r1, p1, (e1 : r0 = p1 ++ r1), f1, h⟩ := (zkv Ty.bool).step h
 cases h
 exact ⟨(p0 ++ p1), by rw [e0, e1]; simp only [List.append_assoc], (f0.append f1)⟩
theorem zq6 : Sp (U := U) zor zzz := fun l x r h => by
 unfold zor at h
 obtain ⟨x0, r0, p0, e0, f0, h⟩ := zd4.step h
 obtain ⟨x1, r1, p1, (e1 : r0 = p1 ++ r1), f1, h⟩ := (za6 .i64).step h
 obtain ⟨x2, r2, p2, (e2 : r1 = p2 ++ r2), f2, h⟩ := (za6 .i64).step h
 cases h
 exact ⟨(p0 ++ (p1 ++ p2)), by rw [e0, e1, e2]; simp only [List.append_assoc], (f0.append (f1.append f2))⟩
theorem zk8 : Sp (U := U) zkh zxk := fun l x r h => by
 unfold zkh at h
 obtain ⟨x0, r0, p0, e0, f0, h⟩ := (za6 .i64).step h
 obtain ⟨x1, r1, p1, (e1 : r0 = p1 ++ r1), f1, h⟩ := (za6 .i64).step h
 obtain ⟨x2, r2, p2, (e2 : r1 = p2 ++ r2), f2, h⟩ := (za6 .i64).step h
 cases h
 exact ⟨(p0 ++ (p1 ++ p2)), by rw [e0, e1, e2]; simp only [List.append_assoc], (f0.append (f1.append f2))⟩
theorem zw6 : Sp (U := U) zto z1f := fun l x r h => by
 unfold zto at h
 obtain ⟨x0, r0, p0, e0, f0, h⟩ := (za6 .i64).step h
 obtain ⟨x1, r1, p1, (e1 : r0 = p1 ++ r1), f1, h⟩ := (za6 .i64).step h
 cases h
 exact ⟨(p0 ++ p1), by rw [e0, e1]; simp only [List.append_assoc], (f0.append f1)⟩
theorem zul : Sp (U := U) zm0 zhs := fun l x r h => by
 unfold zm0 at h
 obtain ⟨x0, r0, p0, e0, f0, h⟩ := (za6 .i64).step h
 obtain ⟨x1, r1, p1, (e1 : r0 = p1 ++ r1), f1, h⟩ := (za6 .i64).step h
 obtain ⟨x2, r2, p2, (e2 : r1 = p2 ++ r2), f2, h⟩ := (za6 .i64).step h
 obtain ⟨x3, r3, p3, (e3 : r2 = p3 ++ r3), f3, h⟩ := (za6 .i64).step h
 obtain ⟨x4, r4, p4, (e4 : r3 = p4 ++ r4), f4, h⟩ := (za6 .i64).step h
 obtain ⟨x5, r5, p5, (e5 : r4 = p5 ++ r5), f5, h⟩ := zq6.step h
 obtain ⟨x6, r6, p6, (e6 : r5 = p6 ++ r6), f6, h⟩ := zq6.step h
 obtain ⟨x7, r7, p7, (e7 : r6 = p7 ++ r7), f7, h⟩ := zk8.step h
 obtain ⟨x8, r8, p8, (e8 : r7 = p8 ++ r8), f8, h⟩ := zk8.step h
 obtain ⟨x9, r9, p9, (e9 : r8 = p9 ++ r9), f9, h⟩ := zd4.step h
 obtain ⟨x10, r10, p10, (e10 : r9 = p10 ++ r10), f10, h⟩ := zd4.step h
 obtain ⟨x11, r11, p11, (e11 : r10 = p11 ++ r11), f11, h⟩ := zw6.step h
 obtain ⟨x12, r12, p12, (e12 : r11 = p12 ++ r12), f12, h⟩ := znl.step h
 obtain ⟨x13, r13, p13, (e13 : r12 = p13 ++ r13), f13, h⟩ := znl.step h
 obtain ⟨x14, r14, p14, (e14 : r13 = p14 ++ r14), f14, h⟩ := (za6 .i64).step h
 obtain ⟨x15, r15, p15, (e15 : r14 = p15 ++ r15), f15, h⟩ := (za6 .i64).step h
 obtain ⟨x16, r16, p16, (e16 : r15 = p16 ++ r16), f16, h⟩ := (za6 .i64).step h
 obtain ⟨x17, r17, p17, (e17 : r16 = p17 ++ r17), f17, h⟩ := (za6 .i64).step h
 cases h
 exact ⟨(p0 ++ (p1 ++ (p2 ++ (p3 ++ (p4 ++ (p5 ++ (p6 ++ (p7 ++ (p8 ++ (p9 ++ (p10 ++ (p11 ++ (p12 ++ (p13 ++ (p14 ++ (p15 ++ (p16 ++ p17))))))))))))))))), by rw [e0, e1, e2, e3, e4, e5, e6, e7, e8, e9, e10, e11, e12, e13, e14, e15, e16, e17]; simp only [List.append_assoc], (f0.append (f1.append (f2.append (f3.append (f4.append (f5.append (f6.append (f7.append (f8.append (f9.append (f10.append (f11.append (f12.append (f13.append (f14.append (f15.append (f16.append f17)))))))))))))))))⟩
theorem z3k : Sp (U := U) zwm z1g := fun l x r h => by
 unfold zwm at h
 obtain ⟨x0, r0, p0, e0, f0, h⟩ := (za6 .i64).step h
 obtain ⟨x1, r1, p1, (e1 : r0 = p1 ++ r1), f1, h⟩ := (za6 .i64).step h
 obtain ⟨x2, r2, p2, (e2 : r1 = p2 ++ r2), f2, h⟩ := (za6 .i64).step h
 obtain ⟨x3, r3, p3, (e3 : r2 = p3 ++ r3), f3, h⟩ := (za6 .i64).step h
 cases h
 exact ⟨(p0 ++ (p1 ++ (p2 ++ p3))), by rw [e0, e1, e2, e3]; simp only [List.append_assoc], (f0.append (f1.append (f2.append f3)))⟩
theorem zo9 : Sp (U := U) zoh zie := fun l x r h => by
 unfold zoh at h
 obtain ⟨x0, r0, p0, e0, f0, h⟩ := zvb.step h
 obtain ⟨x1, r1, p1, (e1 : r0 = p1 ++ r1), f1, h⟩ := (zkv Ty.zC).step h
 obtain ⟨x2, r2, p2, (e2 : r1 = p2 ++ r2), f2, h⟩ := (zkv Ty.zR).step h
 cases h
 exact ⟨(p0 ++ (p1 ++ p2)), by rw [e0, e1, e2]; simp only [List.append_assoc], (f0.append (f1.append f2))⟩
theorem z3l : Sp (U := U) zwn zqr := fun l x r h => by
 unfold zwn at h
 obtain ⟨x0, r0, p0, e0, f0, h⟩ := (za6 .i64).step h
 obtain ⟨x1, r1, p1, (e1 : r0 = p1 ++ r1), f1, h⟩ := zk8.step h
 obtain ⟨x2, r2, p2, (e2 : r1 = p2 ++ r2), f2, h⟩ := (za6 .i64).step h
 cases h
 exact ⟨(p0 ++ (p1 ++ p2)), by rw [e0, e1, e2]; simp only [List.append_assoc], (f0.append (f1.append f2))⟩
theorem zvd : Sp (U := U) zrh zzy := fun l x r h => by
 unfold zrh at h
 obtain ⟨x0, r0, p0, e0, f0, h⟩ := (zkv (Ty.sl Ty.zF)).step h
 obtain ⟨x1, r1, p1, (e1 : r0 = p1 ++ r1), f1, h⟩ := (zkv (Ty.int .i64)).step h
 cases h
 exact ⟨(p0 ++ p1), by rw [e0, e1]; simp only [List.append_assoc], (f0.append f1)⟩
theorem zyi : Sp (U := U) zvq z4q := fun l x r h => by
 unfold zvq at h
 obtain ⟨x0, r0, p0, e0, f0, h⟩ := (za6 .i64).step h
 obtain ⟨x1, r1, p1, (e1 : r0 = p1 ++ r1), f1, h⟩ := znl.step h
 cases h
 exact ⟨(p0 ++ p1), by rw [e0, e1]; simp only [List.append_assoc], (f0.append f1)⟩
theorem zyj : Sp (U := U) zrf zv5 := fun l x r h => by
 unfold zrf at h
 obtain ⟨x0, r0, p0, e0, f0, h⟩ := znl.step h
 obtain ⟨x1, r1, p1, (e1 : r0 = p1 ++ r1), f1, h⟩ := (za6 .i64).step h
 obtain ⟨x2, r2, p2, (e2 : r1 = p2 ++ r2), f2, h⟩ := zk8.step h
 obtain ⟨x3, r3, p3, (e3 : r2 = p3 ++ r3), f3, h⟩ := zyi.step h
 obtain ⟨x4, r4, p4, (e4 : r3 = p4 ++ r4), f4, h⟩ := znl.step h
 obtain ⟨x5, r5, p5, (e5 : r4 = p5 ++ r5), f5, h⟩ := (za6 .i64).step h
 obtain ⟨x6, r6, p6, (e6 : r5 = p6 ++ r6), f6, h⟩ := (za6 .i64).step h
 cases h
 exact ⟨(p0 ++ (p1 ++ (p2 ++ (p3 ++ (p4 ++ (p5 ++ p6)))))), by rw [e0, e1, e2, e3, e4, e5, e6]; simp only [List.append_assoc], (f0.append (f1.append (f2.append (f3.append (f4.append (f5.append f6))))))⟩
theorem zuk : Sp (U := U) zmz zk1 := fun l x r h => by
 unfold zmz at h
 obtain ⟨x0, r0, p0, e0, f0, h⟩ := (za6 .i64).step h
 obtain ⟨x1, r1, p1, (e1 : r0 = p1 ++ r1), f1, h⟩ := (zkv (Ty.int .i64)).step h
 cases h
 exact ⟨(p0 ++ p1), by rw [e0, e1]; simp only [List.append_assoc], (f0.append f1)⟩
theorem zyk : Sp (U := U) zrg zv6 := fun l x r h => by
 unfold zrg at h
 obtain ⟨x0, r0, p0, e0, f0, h⟩ := (za6 .i64).step h
 obtain ⟨x1, r1, p1, (e1 : r0 = p1 ++ r1), f1, h⟩ := (za6 .i64).step h
 obtain ⟨x2, r2, p2, (e2 : r1 = p2 ++ r2), f2, h⟩ := (za6 .i64).step h
 obtain ⟨x3, r3, p3, (e3 : r2 = p3 ++ r3), f3, h⟩ := (za6 .i64).step h
 cases h
 exact ⟨(p0 ++ (p1 ++ (p2 ++ p3))), by rw [e0, e1, e2, e3]; simp only [List.append_assoc], (f0.append (f1.append (f2.append f3)))⟩
theorem zsp : Sp (U := U) zn8 zim := fun l x r h => by
 unfold zn8 at h
 obtain ⟨x0, r0, p0, e0, f0, h⟩ := (zkv Ty.zH).step h
 obtain ⟨x1, r1, p1, (e1 : r0 = p1 ++ r1), f1, h⟩ := (zkv Ty.zK).step h
 obtain ⟨x2, r2, p2, (e2 : r1 = p2 ++ r2), f2, h⟩ := (zkv Ty.zU).step h
 cases h
 exact ⟨(p0 ++ (p1 ++ p2)), by rw [e0, e1, e2]; simp only [List.append_assoc], (f0.append (f1.append f2))⟩
theorem zyl : Sp (U := U) zvr z4r := fun l x r h => by
 unfold zvr at h
 obtain ⟨x0, r0, p0, e0, f0, h⟩ := (zkv (Ty.int .i64)).step h
 cases h
 exact ⟨p0, by rw [e0], f0⟩
theorem zwe : Sp (U := U) zoq zmm := fun l x r h => by
 unfold zoq at h
 obtain ⟨x0, r0, p0, e0, f0, h⟩ := zq7.step h
 obtain ⟨x1, r1, p1, (e1 : r0 = p1 ++ r1), f1, h⟩ := zo9.step h
 obtain ⟨x2, r2, p2, (e2 : r1 = p2 ++ r2), f2, h⟩ := zyl.step h
 cases h
 exact ⟨(p0 ++ (p1 ++ p2)), by rw [e0, e1, e2]; simp only [List.append_assoc], (f0.append (f1.append f2))⟩
theorem zvc : Sp (U := U) zny zsh := fun l x r h => by
 unfold zny at h
 obtain ⟨x0, r0, p0, e0, f0, h⟩ := zq7.step h
 obtain ⟨x1, r1, p1, (e1 : r0 = p1 ++ r1), f1, h⟩ := zo9.step h
 obtain ⟨x2, r2, p2, (e2 : r1 = p2 ++ r2), f2, h⟩ := zo9.step h
 obtain ⟨x3, r3, p3, (e3 : r2 = p3 ++ r3), f3, h⟩ := zvd.step h
 cases h
 exact ⟨(p0 ++ (p1 ++ (p2 ++ p3))), by rw [e0, e1, e2, e3]; simp only [List.append_assoc], (f0.append (f1.append (f2.append f3)))⟩
theorem zo4 : Sp (U := U) zi6 zl7 := fun l x r h => by
 unfold zi6 at h
 obtain ⟨x0, r0, p0, e0, f0, h⟩ := zsp.step h
 obtain ⟨x1, r1, p1, (e1 : r0 = p1 ++ r1), f1, h⟩ := (zkv (Ty.int .i64)).step h
 obtain ⟨x2, r2, p2, (e2 : r1 = p2 ++ r2), f2, h⟩ := (zkv Ty.zC).step h
 cases h
 exact ⟨(p0 ++ (p1 ++ p2)), by rw [e0, e1, e2]; simp only [List.append_assoc], (f0.append (f1.append f2))⟩
theorem z16 : Sp (U := U) zut zzx := fun l x r h => by
 unfold zut at h
 obtain ⟨x0, r0, p0, e0, f0, h⟩ := (za6 .i64).step h
 obtain ⟨x1, r1, p1, (e1 : r0 = p1 ++ r1), f1, h⟩ := (za6 .i64).step h
 cases h
 exact ⟨(p0 ++ p1), by rw [e0, e1]; simp only [List.append_assoc], (f0.append f1)⟩
theorem zva : Sp (U := U) znx zsg := fun l x r h => by
 unfold znx at h
 obtain ⟨x0, r0, p0, e0, f0, h⟩ := zd4.step h
 obtain ⟨x1, r1, p1, (e1 : r0 = p1 ++ r1), f1, h⟩ := zd4.step h
 obtain ⟨x2, r2, p2, (e2 : r1 = p2 ++ r2), f2, h⟩ := zd4.step h
 obtain ⟨x3, r3, p3, (e3 : r2 = p3 ++ r3), f3, h⟩ := zd4.step h
 obtain ⟨x4, r4, p4, (e4 : r3 = p4 ++ r4), f4, h⟩ := zd4.step h
 obtain ⟨x5, r5, p5, (e5 : r4 = p5 ++ r5), f5, h⟩ := zd4.step h
 obtain ⟨x6, r6, p6, (e6 : r5 = p6 ++ r6), f6, h⟩ := zd4.step h
 obtain ⟨x7, r7, p7, (e7 : r6 = p7 ++ r7), f7, h⟩ := zd4.step h
 obtain ⟨x8, r8, p8, (e8 : r7 = p8 ++ r8), f8, h⟩ := zd4.step h
 obtain ⟨x9, r9, p9, (e9 : r8 = p9 ++ r9), f9, h⟩ := zd4.step h
 obtain ⟨x10, r10, p10, (e10 : r9 = p10 ++ r10), f10, h⟩ := zd4.step h
 obtain ⟨x11, r11, p11, (e11 : r10 = p11 ++ r11), f11, h⟩ := zd4.step h
 obtain ⟨x12, r12, p12, (e12 : r11 = p12 ++ r12), f12, h⟩ := zd4.step h
 obtain ⟨x13, r13, p13, (e13 : r12 = p13 ++ r13), f13, h⟩ := zd4.step h
 obtain ⟨x14, r14, p14, (e14 : r13 = p14 ++ r14), f14, h⟩ := (za6 .i64).step h
 obtain ⟨x15, r15, p15, (e15 : r14 = p15 ++ r15), f15, h⟩ := (za6 .i64).step h
 cases h
 exact ⟨(p0 ++ (p1 ++ (p2 ++ (p3 ++ (p4 ++ (p5 ++ (p6 ++ (p7 ++ (p8 ++ (p9 ++ (p10 ++ (p11 ++ (p12 ++ (p13 ++ (p14 ++ p15))))))))))))))), by rw [e0, e1, e2, e3, e4, e5, e6, e7, e8, e9, e10, e11, e12, e13, e14, e15]; simp only [List.append_assoc], (f0.append (f1.append (f2.append (f3.append (f4.append (f5.append (f6.append (f7.append (f8.append (f9.append (f10.append (f11.append (f12.append (f13.append (f14.append f15)))))))))))))))⟩
theorem zve : Sp (U := U) zri zz1 := fun l x r h => by
 unfold zri at h
 obtain ⟨x0, r0, p0, e0, f0, h⟩ := (za6 .i64).step h
 obtain ⟨x1, r1, p1, (e1 : r0 = p1 ++ r1), f1, h⟩ := (za6 .i64).step h
 cases h
 exact ⟨(p0 ++ p1), by rw [e0, e1]; simp only [List.append_assoc], (f0.append f1)⟩
theorem z15 : Sp (U := U) zus zzw := fun l x r h => by
 unfold zus at h
 obtain ⟨x0, r0, p0, e0, f0, h⟩ := (za6 .i64).step h
 obtain ⟨x1, r1, p1, (e1 : r0 = p1 ++ r1), f1, h⟩ := zve.step h
 obtain ⟨x2, r2, p2, (e2 : r1 = p2 ++ r2), f2, h⟩ := (za6 .i64).step h
 cases h
 exact ⟨(p0 ++ (p1 ++ p2)), by rw [e0, e1, e2]; simp only [List.append_assoc], (f0.append (f1.append f2))⟩
theorem sp : ∀ t : Ty, Sp (U := U) (rd t) (enc t)
 | .int k => za6 k
 | .bool => zd4
 | .str => znl
 | .nil => z8t
 | .sl t => zkv t
 | .st 0 => zuj
 | .st 1 => zp0
 | .st 2 => zms
 | .st 3 => zq7
 | .st 4 => zvb
 | .st 5 => zq6
 | .st 6 => zk8
 | .st 7 => zw6
 | .st 8 => zul
 | .st 9 => z3k
 | .st 10 => zo9
 | .st 11 => z3l
 | .st 12 => zvd
 | .st 13 => zyi
 | .st 14 => zyj
 | .st 15 => zuk
 | .st 16 => zyk
 | .st 17 => zsp
 | .st 18 => zyl
 | .st 19 => zwe
 | .st 20 => zvc
 | .st 21 => zo4
 | .st 22 => z16
 | .st 23 => zva
 | .st 24 => zve
 | .st 25 => z15
 | .st (_ + 26) => fun l x r h => by cases h
theorem z6t : ∀ (t : Ty) (x : den t), (enc t x).length = szT t
 | .int _, _ => rfl
 | .bool, _ => rfl
 | .str, _ => rfl
 | .nil, _ => rfl
 | .sl _, _ => rfl
 | .st 0, _ => rfl
 | .st 1, _ => rfl
 | .st 2, _ => rfl
 | .st 3, _ => rfl
 | .st 4, _ => rfl
 | .st 5, _ => rfl
 | .st 6, _ => rfl
 | .st 7, _ => rfl
 | .st 8, _ => rfl
 | .st 9, _ => rfl
 | .st 10, _ => rfl
 | .st 11, _ => rfl
 | .st 12, _ => rfl
 | .st 13, _ => rfl
 | .st 14, _ => rfl
 | .st 15, _ => rfl
 | .st 16, _ => rfl
 | .st 17, _ => rfl
 | .st 18, _ => rfl
 | .st 19, _ => rfl
 | .st 20, _ => rfl
 | .st 21, _ => rfl
 | .st 22, _ => rfl
 | .st 23, _ => rfl
 | .st 24, _ => rfl
 | .st 25, _ => rfl
 | .st (_ + 26), _ => rfl
theorem z89 : ∀ t : Ty, 0 < szT t
 | .int _ => Nat.one_pos
 | .bool => Nat.one_pos
 | .str => Nat.one_pos
 | .nil => Nat.one_pos
 | .sl _ => Nat.one_pos
 | .st 0 => (by decide : 0 < 2)
 | .st 1 => (by decide : 0 < 4)
 | .st 2 => (by decide : 0 < 2)
 | .st 3 => (by decide : 0 < 3)
 | .st 4 => (by decide : 0 < 2)
 | .st 5 => (by decide : 0 < 3)
 | .st 6 => (by decide : 0 < 3)
 | .st 7 => (by decide : 0 < 2)
 | .st 8 => (by decide : 0 < 27)
 | .st 9 => (by decide : 0 < 4)
 | .st 10 => (by decide : 0 < 4)
 | .st 11 => (by decide : 0 < 5)
 | .st 12 => (by decide : 0 < 2)
 | .st 13 => (by decide : 0 < 2)
 | .st 14 => (by decide : 0 < 10)
 | .st 15 => (by decide : 0 < 2)
 | .st 16 => (by decide : 0 < 4)
 | .st 17 => (by decide : 0 < 3)
 | .st 18 => (by decide : 0 < 1)
 | .st 19 => (by decide : 0 < 8)
 | .st 20 => (by decide : 0 < 13)
 | .st 21 => (by decide : 0 < 5)
 | .st 22 => (by decide : 0 < 2)
 | .st 23 => (by decide : 0 < 16)
 | .st 24 => (by decide : 0 < 2)
 | .st 25 => (by decide : 0 < 4)
 | .st (_ + 26) => Nat.one_pos
theorem zaa0 : ∀ (t : Ty) (x : den t), (enc t x).all (fzc (U := U)) = true
 | .int _, _ => rfl
 | .bool, _ => rfl
 | .str, _ => rfl
 | .nil, _ => rfl
 | .sl _, _ => rfl
 | .st 0, _ => rfl
 | .st 1, _ => rfl
 | .st 2, _ => rfl
 | .st 3, _ => rfl
 | .st 4, _ => rfl
 | .st 5, _ => rfl
 | .st 6, _ => rfl
 | .st 7, _ => rfl
 | .st 8, _ => rfl
 | .st 9, _ => rfl
 | .st 10, _ => rfl
 | .st 11, _ => rfl
 | .st 12, _ => rfl
 | .st 13, _ => rfl
 | .st 14, _ => rfl
 | .st 15, _ => rfl
 | .st 16, _ => rfl
 | .st 17, _ => rfl
 | .st 18, _ => rfl
 | .st 19, _ => rfl
 | .st 20, _ => rfl
 | .st 21, _ => rfl
 | .st 22, _ => rfl
 | .st 23, _ => rfl
 | .st 24, _ => rfl
 | .st 25, _ => rfl
 | .st (_ + 26), _ => rfl
theorem z78 : ∀ t : Ty, z61 t = true → ∀ x : den t, (enc t x).all (z3n (U := U)) = true
 | .int _, _, _ => rfl
 | .bool, _, _ => rfl
 | .str, _, _ => rfl
 | .nil, _, _ => rfl
 | .sl _, h, _ => by cases h
 | .st 0, _, _ => rfl
 | .st 1, _, _ => rfl
 | .st 2, _, _ => rfl
 | .st 3, _, _ => rfl
 | .st 4, h, _ => by cases h
 | .st 5, _, _ => rfl
 | .st 6, _, _ => rfl
 | .st 7, _, _ => rfl
 | .st 8, _, _ => rfl
 | .st 9, _, _ => rfl
 | .st 10, h, _ => by cases h
 | .st 11, _, _ => rfl
 | .st 12, h, _ => by cases h
 | .st 13, _, _ => rfl
 | .st 14, _, _ => rfl
 | .st 15, h, _ => by cases h
 | .st 16, _, _ => rfl
 | .st 17, h, _ => by cases h
 | .st 18, h, _ => by cases h
 | .st 19, h, _ => by cases h
 | .st 20, h, _ => by cases h
 | .st 21, h, _ => by cases h
 | .st 22, _, _ => rfl
 | .st 23, _, _ => rfl
 | .st 24, _, _ => rfl
 | .st 25, _, _ => rfl
 | .st (_ + 26), _, _ => rfl
theorem z9h : ∀ t : Ty, z9w t = false → szT t = 1
 | .int _, _ => rfl
 | .bool, _ => rfl
 | .str, _ => rfl
 | .nil, _ => rfl
 | .sl _, _ => rfl
 | .st _, h => by cases h
theorem zfz : ELaws En where
 sz := z6t
 pos := z89
 fz := fun t x c hc => z6e (z1p (zaa0 t x) hc)
 one := z9h
 reify := fun t cs x h => by
  have h' : reify t cs = some x := h; unfold reify at h'; rw [Option.bind_eq_some_iff] at h'; obtain ⟨⟨y, r⟩, h1, h2⟩ := h'; cases r with
  | cons => cases h2
  | nil =>
   cases h2; obtain ⟨p, e, f⟩ := sp t cs _ _ h1; rw [List.append_nil] at e; subst e; exact ⟨f.length.trans (z6t t _), fun j c c' g1 g2 => f.get j c c' g1 g2⟩
 flat := fun t ht x c hc => z0j (z1p (z78 t ht x) hc)
 slAgg := fun _ => rfl
 slEnc := fun _ _ => rfl
 ofTo := fun _ _ => rfl
 u8sz := rfl
 u8 := fun x => ⟨x, rfl⟩
 toInts := fun xs i x n h1 h2 => by cases h2; exact h1
 toIntsLen := fun _ => rfl
 ofInts := fun l i n h => ⟨n, h, rfl⟩
 ofIntsLen := fun _ => rfl
theorem zx3 {O : List (Nat × Ct U)} {X : List (Nat × Nat)} {J : List (Nat × Amx.Spec U × List Ty)} {pre : List (Nat × List Nat)} {lits ro pk bj : List Nat} : CLaws (zqa O X J pre lits ro pk bj) :=
 z6j zfz (l := z6y) rfl (by kernel_rfl)
def ctv (ps : List (Md U)) (res outs : List Ty) (fr : List Nat) (ts : List Ty) (f : Fnc U ts (PT U (res ++ outs))) : Ct U := { params := ps, results := res, outs := outs, fresh := fr, fn := app U ts f }
def cvv (res ts : List Ty) (f : Fnc U ts (PT U (res ++ []))) : Ct U := ctv (ts.map .val) res [] [] ts f
def K0 : Ctx U := zqa [] [] [] [] [] [] [] []
@[reducible] def Kq : Type := Kp K0
structure Cf where
 X : List (Nat × Nat) := []
 J : List (Nat × Amx.Spec U × List Ty) := []
 pre : List (Nat × List Nat) := []
 lits : List Nat := []
 ro : List Nat := []
 pk : List Nat := []
 bj : List Nat := []
def cxo (l : List Kq) (c : Cf) : Ctx U := zqa (Osk l) c.X c.J c.pre c.lits c.ro c.pk c.bj
theorem go (l : List Kq) (c : Cf) {f : FuncId} {fn : Func} {ps : List (Md U)} {res outs : List Ty} {fr : List Nat} {ts : List Ty} {F : Fnc U ts (PT U (res ++ outs))} (L : List (Nat × Cut U (PT U ((ctv ps res outs fr ts F).results ++ (ctv ps res outs fr ts F).outs)))) (hf : Proofs.Tryz.prog.funcs[f]? = some fn) (hn : ((fn.name == "runtime.NumGoroutine") || !fn.body.isSome) = false := by kernel_rfl)
 (hok : zv4 (cxo l c) (ctv ps res outs fr ts F) = fun _ => true := by kernel_rfl) (hr : (cur ts (z5j (cxo l c) fn (ctv ps res outs fr ts F) (pick L)) : Fnc U ts (PT U (res ++ outs))) = F := by kernel_rfl) (hL : Ls (cxo l c) fn (ctv ps res outs fr ts F) (pick L) L := by exact trivial) (hX : ∀ p ∈ c.X, z9x Proofs.Tryz.prog p := by exact zdp) : zh9 K0 f (ctv ps res outs fr ts F) := by
 rw [Bool.or_eq_false_iff] at hn
 exact zh9.ctx (C := cxo l c) (C' := K0) rfl rfl rfl (z4f (C := cxo l c) zx3 (zaaq (C := cxo l c) (C0 := K0) (l := l) rfl rfl rfl rfl) (zx7 (l := c.X) rfl hX) hf hn.1 (by simpa using hn.2) (z9j rfl hL) (fun y => congrFun hok y) (z8b hr))
end
end Go.Proofs.YtnpfkhdbmlhfhaaGreatDoor.M
