/- The program's types, and their cells. -/
import Derived.Test.YtppbpnknfigboaaGreatDoorA3
import Derived.Test.YtppbpnknfigboaaGreatDoorShelf
import Derived.KernelRfl
namespace Go.Proofs.YtppbpnknfigboaaGreatDoor.M
open Go Go.Amx
set_option linter.unusedVariables false
set_option maxRecDepth 100000
noncomputable section
structure zW where
 x : Int
 y : Int
 signed : Bool
 code : Int
structure zT where
 msg : ByteArray
 addr : Int
structure yG where
 Registers : Int
 yL : Bool
 yK : Bool
structure Storage where
 Bytes : ByteArray
 Tags : List Bool
structure yC where
 Based : Bool
 Pointer : Int
 Offset : Int
structure DataType where
 Kind : Int
 Length : Int
 Scale : Int
structure Number where
 N : Int
 Scale : Int
structure zS where
 Op : Int
 R : Int
 A : Int
 B : Int
 yD : Int
 Place : yC
 From : yC
 zJ : DataType
 Second : DataType
 Half : Bool
 yI : Bool
 Number : Number
 Text : ByteArray
 Other : ByteArray
 Mask : Int
 Target : Int
 Pointer : Int
 Source : Int
structure yB where
 From : Int
 To : Int
 Exception : Int
 Handler : Int
structure yE where
 Storage : Storage
 zG : List zS
 yJ : List yB
structure yF where
 Lines : List ByteArray
 Status : Int
 Exception : Int
 Marks : Int
 Steps : Int
 Storage : Storage
structure Value where
 N : Int
 S : ByteArray
structure zF where
 Name : ByteArray
 Kind : Int
 zJ : DataType
 Value : Value
 Base : ByteArray
 Offset : Int
 Target : Int
structure zI where
 Op : Int
 Args : List Int
structure zN where
 From : Int
 To : Int
 Exception : Int
 Handler : Int
structure zB where
 zA : List zF
 zG : List zI
 zL : List zN
structure zQ where
 Lines : List ByteArray
 Status : Int
 Exception : Int
 Steps : Int
structure zV where
 Registers : List Number
 Condition : Int
 Storage : Storage
 At : Int
 Stack : List Int
 Lines : List ByteArray
 Status : Int
 Exception : Int
 Marks : Int
 Steps : Int
structure zC where
 Storage : Storage
 At : Int
 Stack : List Int
 Lines : List ByteArray
 Status : Int
 Exception : Int
 Steps : Int
structure zM where
 Part : Int
 Index : Int
structure Address where
 zX : Int
 Offset : Int
structure Pointer where
 Kind : Int
 Address : Address
 Authority : Int
structure yA where
 fields : Int
 types : Int
structure zZ where
 R : Bool
 A : Bool
 B : Bool
 Place : Bool
 From : Bool
 Half : Bool
 Number : Bool
 yD : Bool
 Mask : Bool
 Target : Bool
 Text : Bool
 Other : Bool
 Pointer : Bool
 Source : Bool
 zJ : Int
 Second : Int
structure zY where
 zV : zV
 code : yE
 raised : Int
structure zD where
 zB : zB
 zC : zC
 layout : List Int
 raised : Int
structure zK where
 Below : Bool
 zR : List Int
structure zU where
 Op : Int
 zJ : DataType
 Half : Bool
structure zP where
 Top : zK
 yH : List Int
structure zH where
 e0 : Int
 e1 : Int
 e2 : Int
 e3 : Int
structure zO where
 below : Bool
 amount : zH
 division : zH
inductive Ty where
 | int (k : IntKind)
 | bool
 | str
 | nil
 | sl (t : Ty)
 | st (n : Nat)
@[reducible] def z6u : Nat → Type
 | 0 => zW
 | 1 => zT
 | 2 => yG
 | 3 => Storage
 | 4 => yC
 | 5 => DataType
 | 6 => Number
 | 7 => zS
 | 8 => yB
 | 9 => yE
 | 10 => yF
 | 11 => Value
 | 12 => zF
 | 13 => zI
 | 14 => zN
 | 15 => zB
 | 16 => zQ
 | 17 => zV
 | 18 => zC
 | 19 => zM
 | 20 => Address
 | 21 => Pointer
 | 22 => yA
 | 23 => zZ
 | 24 => zY
 | 25 => zD
 | 26 => zK
 | 27 => zU
 | 28 => zP
 | 29 => zH
 | 30 => zO
 | _ + 31 => Unit
@[reducible] def den : Ty → Type
 | .int _ => Int
 | .bool => Bool
 | .str => ByteArray
 | .nil => Unit
 | .sl t => List (den t)
 | .st n => z6u n
def eqTy : (a b : Ty) → Option (PLift (a = b))
 | .int j, .int k => if h : j = k then some ⟨by rw [h]⟩ else none
 | .bool, .bool => some ⟨rfl⟩
 | .str, .str => some ⟨rfl⟩
 | .nil, .nil => some ⟨rfl⟩
 | .sl a, .sl b => match eqTy a b with
  | some ⟨h⟩ => some ⟨by rw [h]⟩
  | none => none
 | .st i, .st j => if h : i = j then some ⟨by rw [h]⟩ else none
 | _, _ => none
@[reducible] def U : Uni := { Ty := Ty, den := den, eqTy := eqTy }
@[reducible] def T6 : Ty := Ty.int .i64
def w6 (n : Int) : Int := IntKind.wrap .i64 n
@[reducible] def Ty.zW : Ty := .st 0
@[reducible] def Ty.zT : Ty := .st 1
@[reducible] def Ty.yG : Ty := .st 2
@[reducible] def Ty.Storage : Ty := .st 3
@[reducible] def Ty.yC : Ty := .st 4
@[reducible] def Ty.DataType : Ty := .st 5
@[reducible] def Ty.Number : Ty := .st 6
@[reducible] def Ty.zS : Ty := .st 7
@[reducible] def Ty.yB : Ty := .st 8
@[reducible] def Ty.yE : Ty := .st 9
@[reducible] def Ty.yF : Ty := .st 10
@[reducible] def Ty.Value : Ty := .st 11
@[reducible] def Ty.zF : Ty := .st 12
@[reducible] def Ty.zI : Ty := .st 13
@[reducible] def Ty.zN : Ty := .st 14
@[reducible] def Ty.zB : Ty := .st 15
@[reducible] def Ty.zQ : Ty := .st 16
@[reducible] def Ty.zV : Ty := .st 17
@[reducible] def Ty.zC : Ty := .st 18
@[reducible] def Ty.zM : Ty := .st 19
@[reducible] def Ty.Address : Ty := .st 20
@[reducible] def Ty.Pointer : Ty := .st 21
@[reducible] def Ty.yA : Ty := .st 22
@[reducible] def Ty.zZ : Ty := .st 23
@[reducible] def Ty.zY : Ty := .st 24
@[reducible] def Ty.zD : Ty := .st 25
@[reducible] def Ty.zK : Ty := .st 26
@[reducible] def Ty.zU : Ty := .st 27
@[reducible] def Ty.zP : Ty := .st 28
@[reducible] def Ty.zH : Ty := .st 29
@[reducible] def Ty.zO : Ty := .st 30
def zbe (k : IntKind) : List (AV U) → Option (Int × List (AV U))
 | .sc (.int k' n) :: l => if k = k' then some (n, l) else none
 | _ => none
def zf1 : List (AV U) → Option (Bool × List (AV U))
 | .sc (.bool b) :: l => some (b, l)
 | _ => none
def zse : List (AV U) → Option (ByteArray × List (AV U))
 | .sc (.string s) :: l => some (s, l)
 | _ => none
def rNil : List (AV U) → Option (Unit × List (AV U))
 | .sc (.slice none 0 0) :: l => some ((), l)
 | _ => none
def rSl (t : Ty) : List (AV U) → Option (List (den t) × List (AV U))
 | .lst t' xs :: l => (U.eqTy t' t).map fun e => (zz8 e xs, l)
 | .sc (.slice none 0 0) :: l => some ([], l)
 | _ => none
def zkk (l : List (AV U)) : Option (zW × List (AV U)) := (zbe .i64 l).bind fun x0 => (zbe .i64 x0.2).bind fun x1 => (zf1 x1.2).bind fun x2 => (zbe .u8 x2.2).bind fun x3 => some (⟨x0.1, x1.1, x2.1, x3.1⟩, x3.2)
def zhv (l : List (AV U)) : Option (zT × List (AV U)) := (zse l).bind fun x0 => (zbe .u64 x0.2).bind fun x1 => some (⟨x0.1, x1.1⟩, x1.2)
def zyg (l : List (AV U)) : Option (yG × List (AV U)) := (zbe .i64 l).bind fun x0 => (zf1 x0.2).bind fun x1 => (zf1 x1.2).bind fun x2 => some (⟨x0.1, x1.1, x2.1⟩, x2.2)
def zm0 (l : List (AV U)) : Option (Storage × List (AV U)) := (zse l).bind fun x0 => (rSl Ty.bool x0.2).bind fun x1 => some (⟨x0.1, x1.1⟩, x1.2)
def zq3 (l : List (AV U)) : Option (yC × List (AV U)) := (zf1 l).bind fun x0 => (zbe .i64 x0.2).bind fun x1 => (zbe .i64 x1.2).bind fun x2 => some (⟨x0.1, x1.1, x2.1⟩, x2.2)
def zlj (l : List (AV U)) : Option (DataType × List (AV U)) := (zbe .i64 l).bind fun x0 => (zbe .i64 x0.2).bind fun x1 => (zbe .i64 x1.2).bind fun x2 => some (⟨x0.1, x1.1, x2.1⟩, x2.2)
def zwt (l : List (AV U)) : Option (Number × List (AV U)) := (zbe .i64 l).bind fun x0 => (zbe .i64 x0.2).bind fun x1 => some (⟨x0.1, x1.1⟩, x1.2)
def zon (l : List (AV U)) : Option (zS × List (AV U)) := (zbe .i64 l).bind fun x0 => (zbe .i64 x0.2).bind fun x1 => (zbe .i64 x1.2).bind fun x2 => (zbe .i64 x2.2).bind fun x3 => (zbe .i64 x3.2).bind fun x4 => (zq3 x4.2).bind fun x5 => (zq3 x5.2).bind fun x6 => (zlj x6.2).bind fun x7 => (zlj x7.2).bind fun x8 => (zf1 x8.2).bind fun x9 => (zf1 x9.2).bind fun x10 => (zwt x10.2).bind fun x11 => (zse x11.2).bind fun x12 => (zse x12.2).bind fun x13 => (zbe .i64 x13.2).bind fun x14 => (zbe .i64 x14.2).bind fun x15 => (zbe .i64 x15.2).bind fun x16 => (zbe .i64 x16.2).bind fun x17 => some (⟨x0.1, x1.1, x2.1, x3.1, x4.1, x5.1, x6.1, x7.1, x8.1, x9.1, x10.1, x11.1, x12.1, x13.1, x14.1, x15.1, x16.1, x17.1⟩, x17.2)
def z0i (l : List (AV U)) : Option (yB × List (AV U)) := (zbe .i64 l).bind fun x0 => (zbe .i64 x0.2).bind fun x1 => (zbe .i64 x1.2).bind fun x2 => (zbe .i64 x2.2).bind fun x3 => some (⟨x0.1, x1.1, x2.1, x3.1⟩, x3.2)
def zwu (l : List (AV U)) : Option (yE × List (AV U)) := (zm0 l).bind fun x0 => (rSl Ty.zS x0.2).bind fun x1 => (rSl Ty.yB x1.2).bind fun x2 => some (⟨x0.1, x1.1, x2.1⟩, x2.2)
def zvu (l : List (AV U)) : Option (yF × List (AV U)) := (rSl Ty.str l).bind fun x0 => (zbe .i64 x0.2).bind fun x1 => (zbe .i64 x1.2).bind fun x2 => (zbe .i64 x2.2).bind fun x3 => (zbe .i64 x3.2).bind fun x4 => (zm0 x4.2).bind fun x5 => some (⟨x0.1, x1.1, x2.1, x3.1, x4.1, x5.1⟩, x5.2)
def zzh (l : List (AV U)) : Option (Value × List (AV U)) := (zbe .i64 l).bind fun x0 => (zse x0.2).bind fun x1 => some (⟨x0.1, x1.1⟩, x1.2)
def ztq (l : List (AV U)) : Option (zF × List (AV U)) := (zse l).bind fun x0 => (zbe .i64 x0.2).bind fun x1 => (zlj x1.2).bind fun x2 => (zzh x2.2).bind fun x3 => (zse x3.2).bind fun x4 => (zbe .i64 x4.2).bind fun x5 => (zbe .i64 x5.2).bind fun x6 => some (⟨x0.1, x1.1, x2.1, x3.1, x4.1, x5.1, x6.1⟩, x6.2)
def zom (l : List (AV U)) : Option (zI × List (AV U)) := (zbe .i64 l).bind fun x0 => (rSl (Ty.int .i64) x0.2).bind fun x1 => some (⟨x0.1, x1.1⟩, x1.2)
def ztr (l : List (AV U)) : Option (zN × List (AV U)) := (zbe .i64 l).bind fun x0 => (zbe .i64 x0.2).bind fun x1 => (zbe .i64 x1.2).bind fun x2 => (zbe .i64 x2.2).bind fun x3 => some (⟨x0.1, x1.1, x2.1, x3.1⟩, x3.2)
def zqg (l : List (AV U)) : Option (zB × List (AV U)) := (rSl Ty.zF l).bind fun x0 => (rSl Ty.zI x0.2).bind fun x1 => (rSl Ty.zN x1.2).bind fun x2 => some (⟨x0.1, x1.1, x2.1⟩, x2.2)
def zvt (l : List (AV U)) : Option (zQ × List (AV U)) := (rSl Ty.str l).bind fun x0 => (zbe .i64 x0.2).bind fun x1 => (zbe .i64 x1.2).bind fun x2 => (zbe .i64 x2.2).bind fun x3 => some (⟨x0.1, x1.1, x2.1, x3.1⟩, x3.2)
def zts (l : List (AV U)) : Option (zV × List (AV U)) := (rSl Ty.Number l).bind fun x0 => (zbe .i64 x0.2).bind fun x1 => (zm0 x1.2).bind fun x2 => (zbe .i64 x2.2).bind fun x3 => (rSl (Ty.int .i64) x3.2).bind fun x4 => (rSl Ty.str x4.2).bind fun x5 => (zbe .i64 x5.2).bind fun x6 => (zbe .i64 x6.2).bind fun x7 => (zbe .i64 x7.2).bind fun x8 => (zbe .i64 x8.2).bind fun x9 => some (⟨x0.1, x1.1, x2.1, x3.1, x4.1, x5.1, x6.1, x7.1, x8.1, x9.1⟩, x9.2)
def ztp (l : List (AV U)) : Option (zC × List (AV U)) := (zm0 l).bind fun x0 => (zbe .i64 x0.2).bind fun x1 => (rSl (Ty.int .i64) x1.2).bind fun x2 => (rSl Ty.str x2.2).bind fun x3 => (zbe .i64 x3.2).bind fun x4 => (zbe .i64 x4.2).bind fun x5 => (zbe .i64 x5.2).bind fun x6 => some (⟨x0.1, x1.1, x2.1, x3.1, x4.1, x5.1, x6.1⟩, x6.2)
def zyf (l : List (AV U)) : Option (zM × List (AV U)) := (zbe .i64 l).bind fun x0 => (zbe .i64 x0.2).bind fun x1 => some (⟨x0.1, x1.1⟩, x1.2)
def ztt (l : List (AV U)) : Option (Address × List (AV U)) := (zbe .i64 l).bind fun x0 => (zbe .i64 x0.2).bind fun x1 => some (⟨x0.1, x1.1⟩, x1.2)
def zye (l : List (AV U)) : Option (Pointer × List (AV U)) := (zbe .i64 l).bind fun x0 => (ztt x0.2).bind fun x1 => (zbe .i64 x1.2).bind fun x2 => some (⟨x0.1, x1.1, x2.1⟩, x2.2)
def zoi (l : List (AV U)) : Option (yA × List (AV U)) := (zbe .i64 l).bind fun x0 => (zbe .i64 x0.2).bind fun x1 => some (⟨x0.1, x1.1⟩, x1.2)
def zp4 (l : List (AV U)) : Option (zZ × List (AV U)) := (zf1 l).bind fun x0 => (zf1 x0.2).bind fun x1 => (zf1 x1.2).bind fun x2 => (zf1 x2.2).bind fun x3 => (zf1 x3.2).bind fun x4 => (zf1 x4.2).bind fun x5 => (zf1 x5.2).bind fun x6 => (zf1 x6.2).bind fun x7 => (zf1 x7.2).bind fun x8 => (zf1 x8.2).bind fun x9 => (zf1 x9.2).bind fun x10 => (zf1 x10.2).bind fun x11 => (zf1 x11.2).bind fun x12 => (zf1 x12.2).bind fun x13 => (zbe .i64 x13.2).bind fun x14 => (zbe .i64 x14.2).bind fun x15 => some (⟨x0.1, x1.1, x2.1, x3.1, x4.1, x5.1, x6.1, x7.1, x8.1, x9.1, x10.1, x11.1, x12.1, x13.1, x14.1, x15.1⟩, x15.2)
def zl7 (l : List (AV U)) : Option (zY × List (AV U)) := (zts l).bind fun x0 => (zwu x0.2).bind fun x1 => (zbe .i64 x1.2).bind fun x2 => some (⟨x0.1, x1.1, x2.1⟩, x2.2)
def zlf (l : List (AV U)) : Option (zD × List (AV U)) := (zqg l).bind fun x0 => (ztp x0.2).bind fun x1 => (rSl (Ty.int .i64) x1.2).bind fun x2 => (zbe .i64 x2.2).bind fun x3 => some (⟨x0.1, x1.1, x2.1, x3.1⟩, x3.2)
def zo6 (l : List (AV U)) : Option (zK × List (AV U)) := (zf1 l).bind fun x0 => (rSl (Ty.int .i64) x0.2).bind fun x1 => some (⟨x0.1, x1.1⟩, x1.2)
def zof (l : List (AV U)) : Option (zU × List (AV U)) := (zbe .i64 l).bind fun x0 => (zlj x0.2).bind fun x1 => (zf1 x1.2).bind fun x2 => some (⟨x0.1, x1.1, x2.1⟩, x2.2)
def znr (l : List (AV U)) : Option (zP × List (AV U)) := (zo6 l).bind fun x0 => (rSl (Ty.int .i64) x0.2).bind fun x1 => some (⟨x0.1, x1.1⟩, x1.2)
def zsp (l : List (AV U)) : Option (zH × List (AV U)) := (zbe .u64 l).bind fun x0 => (zbe .u64 x0.2).bind fun x1 => (zbe .u64 x1.2).bind fun x2 => (zbe .u64 x2.2).bind fun x3 => some (⟨x0.1, x1.1, x2.1, x3.1⟩, x3.2)
def zl6 (l : List (AV U)) : Option (zO × List (AV U)) := (zf1 l).bind fun x0 => (zsp x0.2).bind fun x1 => (zsp x1.2).bind fun x2 => some (⟨x0.1, x1.1, x2.1⟩, x2.2)
def zn4 (x : zW) : List (AV U) := [.sc (.int .i64 x.x), .sc (.int .i64 x.y), .sc (.bool x.signed), .sc (.int .u8 x.code)]
def zki (x : zT) : List (AV U) := [.sc (.string x.msg), .sc (.int .u64 x.addr)]
def z4n (x : yG) : List (AV U) := [.sc (.int .i64 x.Registers), .sc (.bool x.yL), .sc (.bool x.yK)]
def z4h (x : Storage) : List (AV U) := [.sc (.string x.Bytes), .lst Ty.bool x.Tags]
def z4m (x : yC) : List (AV U) := [.sc (.bool x.Based), .sc (.int .i64 x.Pointer), .sc (.int .i64 x.Offset)]
def z1w (x : DataType) : List (AV U) := [.sc (.int .i64 x.Kind), .sc (.int .i64 x.Length), .sc (.int .i64 x.Scale)]
def z59 (x : Number) : List (AV U) := [.sc (.int .i64 x.N), .sc (.int .i64 x.Scale)]
def zs0 (x : zS) : List (AV U) := [.sc (.int .i64 x.Op), .sc (.int .i64 x.R), .sc (.int .i64 x.A), .sc (.int .i64 x.B), .sc (.int .i64 x.yD), .sc (.bool x.Place.Based), .sc (.int .i64 x.Place.Pointer), .sc (.int .i64 x.Place.Offset), .sc (.bool x.From.Based), .sc (.int .i64 x.From.Pointer), .sc (.int .i64 x.From.Offset), .sc (.int .i64 x.zJ.Kind), .sc (.int .i64 x.zJ.Length), .sc (.int .i64 x.zJ.Scale), .sc (.int .i64 x.Second.Kind), .sc (.int .i64 x.Second.Length), .sc (.int .i64 x.Second.Scale), .sc (.bool x.Half), .sc (.bool x.yI), .sc (.int .i64 x.Number.N), .sc (.int .i64 x.Number.Scale), .sc (.string x.Text), .sc (.string x.Other), .sc (.int .i64 x.Mask), .sc (.int .i64 x.Target), .sc (.int .i64 x.Pointer), .sc (.int .i64 x.Source)]
def z6a (x : yB) : List (AV U) := [.sc (.int .i64 x.From), .sc (.int .i64 x.To), .sc (.int .i64 x.Exception), .sc (.int .i64 x.Handler)]
def z6b (x : yE) : List (AV U) := [.sc (.string x.Storage.Bytes), .lst Ty.bool x.Storage.Tags, .lst Ty.zS x.zG, .lst Ty.yB x.yJ]
def z1v (x : yF) : List (AV U) := [.lst Ty.str x.Lines, .sc (.int .i64 x.Status), .sc (.int .i64 x.Exception), .sc (.int .i64 x.Marks), .sc (.int .i64 x.Steps), .sc (.string x.Storage.Bytes), .lst Ty.bool x.Storage.Tags]
def z9r (x : Value) : List (AV U) := [.sc (.int .i64 x.N), .sc (.string x.S)]
def zz1 (x : zF) : List (AV U) := [.sc (.string x.Name), .sc (.int .i64 x.Kind), .sc (.int .i64 x.zJ.Kind), .sc (.int .i64 x.zJ.Length), .sc (.int .i64 x.zJ.Scale), .sc (.int .i64 x.Value.N), .sc (.string x.Value.S), .sc (.string x.Base), .sc (.int .i64 x.Offset), .sc (.int .i64 x.Target)]
def zl2 (x : zI) : List (AV U) := [.sc (.int .i64 x.Op), .lst (Ty.int .i64) x.Args]
def zz2 (x : zN) : List (AV U) := [.sc (.int .i64 x.From), .sc (.int .i64 x.To), .sc (.int .i64 x.Exception), .sc (.int .i64 x.Handler)]
def zjk (x : zB) : List (AV U) := [.lst Ty.zF x.zA, .lst Ty.zI x.zG, .lst Ty.zN x.zL]
def z1u (x : zQ) : List (AV U) := [.lst Ty.str x.Lines, .sc (.int .i64 x.Status), .sc (.int .i64 x.Exception), .sc (.int .i64 x.Steps)]
def z4l (x : zV) : List (AV U) := [.lst Ty.Number x.Registers, .sc (.int .i64 x.Condition), .sc (.string x.Storage.Bytes), .lst Ty.bool x.Storage.Tags, .sc (.int .i64 x.At), .lst (Ty.int .i64) x.Stack, .lst Ty.str x.Lines, .sc (.int .i64 x.Status), .sc (.int .i64 x.Exception), .sc (.int .i64 x.Marks), .sc (.int .i64 x.Steps)]
def z4j (x : zC) : List (AV U) := [.sc (.string x.Storage.Bytes), .lst Ty.bool x.Storage.Tags, .sc (.int .i64 x.At), .lst (Ty.int .i64) x.Stack, .lst Ty.str x.Lines, .sc (.int .i64 x.Status), .sc (.int .i64 x.Exception), .sc (.int .i64 x.Steps)]
def z4k (x : zM) : List (AV U) := [.sc (.int .i64 x.Part), .sc (.int .i64 x.Index)]
def z4o (x : Address) : List (AV U) := [.sc (.int .i64 x.zX), .sc (.int .i64 x.Offset)]
def z4i (x : Pointer) : List (AV U) := [.sc (.int .i64 x.Kind), .sc (.int .i64 x.Address.zX), .sc (.int .i64 x.Address.Offset), .sc (.int .i64 x.Authority)]
def zsy (x : yA) : List (AV U) := [.sc (.int .i64 x.fields), .sc (.int .i64 x.types)]
def zu1 (x : zZ) : List (AV U) := [.sc (.bool x.R), .sc (.bool x.A), .sc (.bool x.B), .sc (.bool x.Place), .sc (.bool x.From), .sc (.bool x.Half), .sc (.bool x.Number), .sc (.bool x.yD), .sc (.bool x.Mask), .sc (.bool x.Target), .sc (.bool x.Text), .sc (.bool x.Other), .sc (.bool x.Pointer), .sc (.bool x.Source), .sc (.int .i64 x.zJ), .sc (.int .i64 x.Second)]
def zp9 (x : zY) : List (AV U) := [.lst Ty.Number x.zV.Registers, .sc (.int .i64 x.zV.Condition), .sc (.string x.zV.Storage.Bytes), .lst Ty.bool x.zV.Storage.Tags, .sc (.int .i64 x.zV.At), .lst (Ty.int .i64) x.zV.Stack, .lst Ty.str x.zV.Lines, .sc (.int .i64 x.zV.Status), .sc (.int .i64 x.zV.Exception), .sc (.int .i64 x.zV.Marks), .sc (.int .i64 x.zV.Steps), .sc (.string x.code.Storage.Bytes), .lst Ty.bool x.code.Storage.Tags, .lst Ty.zS x.code.zG, .lst Ty.yB x.code.yJ, .sc (.int .i64 x.raised)]
def zp0 (x : zD) : List (AV U) := [.lst Ty.zF x.zB.zA, .lst Ty.zI x.zB.zG, .lst Ty.zN x.zB.zL, .sc (.string x.zC.Storage.Bytes), .lst Ty.bool x.zC.Storage.Tags, .sc (.int .i64 x.zC.At), .lst (Ty.int .i64) x.zC.Stack, .lst Ty.str x.zC.Lines, .sc (.int .i64 x.zC.Status), .sc (.int .i64 x.zC.Exception), .sc (.int .i64 x.zC.Steps), .lst (Ty.int .i64) x.layout, .sc (.int .i64 x.raised)]
def zxs (x : zK) : List (AV U) := [.sc (.bool x.Below), .lst (Ty.int .i64) x.zR]
def zsx (x : zU) : List (AV U) := [.sc (.int .i64 x.Op), .sc (.int .i64 x.zJ.Kind), .sc (.int .i64 x.zJ.Length), .sc (.int .i64 x.zJ.Scale), .sc (.bool x.Half)]
def zr0 (x : zP) : List (AV U) := [.sc (.bool x.Top.Below), .lst (Ty.int .i64) x.Top.zR, .lst (Ty.int .i64) x.yH]
def z6c (x : zH) : List (AV U) := [.sc (.int .u64 x.e0), .sc (.int .u64 x.e1), .sc (.int .u64 x.e2), .sc (.int .u64 x.e3)]
def zp8 (x : zO) : List (AV U) := [.sc (.bool x.below), .sc (.int .u64 x.amount.e0), .sc (.int .u64 x.amount.e1), .sc (.int .u64 x.amount.e2), .sc (.int .u64 x.amount.e3), .sc (.int .u64 x.division.e0), .sc (.int .u64 x.division.e1), .sc (.int .u64 x.division.e2), .sc (.int .u64 x.division.e3)]
def zage : (n : Nat) → z6u n → List (AV U)
 | 0, x => zn4 x
 | 1, x => zki x
 | 2, x => z4n x
 | 3, x => z4h x
 | 4, x => z4m x
 | 5, x => z1w x
 | 6, x => z59 x
 | 7, x => zs0 x
 | 8, x => z6a x
 | 9, x => z6b x
 | 10, x => z1v x
 | 11, x => z9r x
 | 12, x => zz1 x
 | 13, x => zl2 x
 | 14, x => zz2 x
 | 15, x => zjk x
 | 16, x => z1u x
 | 17, x => z4l x
 | 18, x => z4j x
 | 19, x => z4k x
 | 20, x => z4o x
 | 21, x => z4i x
 | 22, x => zsy x
 | 23, x => zu1 x
 | 24, x => zp9 x
 | 25, x => zp0 x
 | 26, x => zxs x
 | 27, x => zsx x
 | 28, x => zr0 x
 | 29, x => z6c x
 | 30, x => zp8 x
 | _ + 31, _ => [.sc (.bool true)]
def rdSt : (n : Nat) → List (AV U) → Option (z6u n × List (AV U))
 | 0, l => zkk l
 | 1, l => zhv l
 | 2, l => zyg l
 | 3, l => zm0 l
 | 4, l => zq3 l
 | 5, l => zlj l
 | 6, l => zwt l
 | 7, l => zon l
 | 8, l => z0i l
 | 9, l => zwu l
 | 10, l => zvu l
 | 11, l => zzh l
 | 12, l => ztq l
 | 13, l => zom l
 | 14, l => ztr l
 | 15, l => zqg l
 | 16, l => zvt l
 | 17, l => zts l
 | 18, l => ztp l
 | 19, l => zyf l
 | 20, l => ztt l
 | 21, l => zye l
 | 22, l => zoi l
 | 23, l => zp4 l
 | 24, l => zl7 l
 | 25, l => zlf l
 | 26, l => zo6 l
 | 27, l => zof l
 | 28, l => znr l
 | 29, l => zsp l
 | 30, l => zl6 l
 | _ + 31, _ => none
def enc : (t : Ty) → den t → List (AV U)
 | .int k, n => [.sc (.int k n)]
 | .bool, b => [.sc (.bool b)]
 | .str, s => [.sc (.string s)]
 | .nil, _ => [.sc (.slice none 0 0)]
 | .sl t, xs => [.lst t xs]
 | .st n, x => zage n x
def rd : (t : Ty) → List (AV U) → Option (den t × List (AV U))
 | .int k, l => zbe k l
 | .bool, l => zf1 l
 | .str, l => zse l
 | .nil, l => rNil l
 | .sl t, l => rSl t l
 | .st n, l => rdSt n l
def reify (t : Ty) (l : List (AV U)) : Option (den t) := (rd t l).bind fun r => match r.2 with
 | [] => some r.1
 | _ => none
def szSt : Nat → Nat
 | 0 => 4
 | 1 => 2
 | 2 => 3
 | 3 => 2
 | 4 => 3
 | 5 => 3
 | 6 => 2
 | 7 => 27
 | 8 => 4
 | 9 => 4
 | 10 => 7
 | 11 => 2
 | 12 => 10
 | 13 => 2
 | 14 => 4
 | 15 => 3
 | 16 => 4
 | 17 => 11
 | 18 => 8
 | 19 => 2
 | 20 => 2
 | 21 => 4
 | 22 => 2
 | 23 => 16
 | 24 => 16
 | 25 => 13
 | 26 => 2
 | 27 => 5
 | 28 => 3
 | 29 => 4
 | 30 => 9
 | _ + 31 => 1
def zae7 : Nat → Bool
 | 0 => true
 | 1 => true
 | 2 => true
 | 3 => false
 | 4 => true
 | 5 => true
 | 6 => true
 | 7 => true
 | 8 => true
 | 9 => false
 | 10 => false
 | 11 => true
 | 12 => true
 | 13 => false
 | 14 => true
 | 15 => false
 | 16 => false
 | 17 => false
 | 18 => false
 | 19 => true
 | 20 => true
 | 21 => true
 | 22 => true
 | 23 => true
 | 24 => false
 | 25 => false
 | 26 => false
 | 27 => true
 | 28 => false
 | 29 => true
 | 30 => true
 | _ + 31 => true
def szT : Ty → Nat
 | .st n => szSt n
 | _ => 1
def aggT : Ty → Bool
 | .st _ => true
 | _ => false
def zab3 : Ty → Bool
 | .sl _ => false
 | .st n => zae7 n
 | _ => true
def zab0 : List (Nat × Ty) := [(2, (Ty.int .i64)), (3, (Ty.int .i64)), (4, Ty.bool), (5, (Ty.int .u8)), (6, (Ty.int .u8)), (8, Ty.zW), (9, Ty.str), (10, Ty.str), (11, Ty.str), (12, (Ty.int .u64)), (14, Ty.zT), (21, (Ty.int .i32)), (23, Ty.yG), (24, (Ty.sl Ty.bool)), (26, Ty.Storage), (27, (Ty.sl Ty.zS)), (28, (Ty.sl Ty.yB)), (30, Ty.yE), (33, (Ty.int .i64)), (42, (Ty.sl Ty.str)), (44, Ty.yF), (54, (Ty.sl Ty.zF)), (55, (Ty.sl Ty.zI)), (56, (Ty.sl Ty.zN)), (58, Ty.zB), (61, Ty.zQ), (68, (Ty.sl Ty.Number)), (69, (Ty.sl (Ty.int .i64))), (71, Ty.zV), (84, Ty.Number), (89, Ty.yC), (91, Ty.DataType), (93, Ty.zS), (101, Ty.yB), (117, Ty.Value), (119, Ty.zF), (121, Ty.zI), (123, Ty.zC), (128, Ty.zM), (142, Ty.Address), (144, Ty.Pointer), (154, (Ty.sl (Ty.int .i64))), (159, Ty.yA), (164, Ty.zZ), (173, Ty.zY), (186, Ty.zN), (203, (Ty.sl (Ty.int .u8))), (224, Ty.zD), (248, Ty.zK), (262, Ty.zU), (263, (Ty.int .u64)), (312, Ty.zP), (321, (Ty.int .u64)), (322, Ty.zH), (323, Ty.zH), (325, Ty.zO), (348, (Ty.int .i8)), (374, (Ty.int .u32)), (383, (Ty.sl (Ty.sl (Ty.int .u8)))), (405, (Ty.int .u8)), (406, (Ty.int .u8)), (408, (Ty.int .i32)), (409, (Ty.int .i32))]
def En : Enc U := { sz := szT, agg := aggT, flat := zab3, enc := enc, reify := reify, ofGo := pick zab0, sl := Ty.sl, toSl := fun _ xs => xs, ofSl := fun _ xs => xs, u8 := .int .u8, ofInts := fun l => l, toInts := fun l => l }
def zrx : List (List Int) := [[0, 4], [2, 3], [2, 3, 3], [2, 3, 3], [2, 3, 3], [2, 3, 3], [2, 3, 3], [1, 4, 6], [1, 4, 6], [6], [5, 0], [5, 5], [5, 3], [6], [], [3], [2], [1], []]
def zab2 : List Int := [1, 10, 100, 1000, 10000, 100000, 1000000, 10000000, 100000000, 1000000000, 10000000000, 100000000000, 1000000000000, 10000000000000, 100000000000000, 1000000000000000, 10000000000000000, 100000000000000000, 1000000000000000000, 10000000000000000000]
def zagb : List Int := [0, 1, 28, 2, 29, 14, 24, 3, 30, 22, 20, 15, 25, 17, 4, 8, 31, 27, 13, 23, 21, 19, 16, 7, 26, 12, 18, 6, 11, 5, 10, 9]
def zaga : List Int := [0, 1, 56, 2, 57, 49, 28, 3, 61, 58, 42, 50, 38, 29, 17, 4, 62, 47, 59, 36, 45, 43, 51, 22, 53, 39, 33, 30, 24, 18, 12, 5, 63, 55, 48, 27, 60, 41, 37, 16, 46, 35, 44, 21, 52, 32, 23, 11, 54, 26, 40, 15, 34, 20, 31, 10, 25, 14, 19, 9, 13, 8, 7, 6]
def globs : List (Nat × AV U) := [(2, .rarr (Ty.sl (Ty.int .i64)) zrx), (3, .rarr (Ty.int .u64) zab2), (4, .rarr (Ty.int .u8) zagb), (5, .rarr (Ty.int .u8) zaga)]
def zt5 (O : List (Nat × Ct U)) (X : List (Nat × Nat)) (J : List (Nat × Amx.Spec U × List Ty)) (pre : List (Nat × List Nat)) (lits ro pk bj : List Nat) : Ctx U :=
 { P := Proofs.Tryz.prog, En := En, G := pick globs, O := pick O, X := pick X, joins := pick J, pre := fun r => (pick pre r).getD [], lits := lits, ro := ro, pk := pk, bj := bj }
theorem zy (k : IntKind) : Sp (U := U) (zbe k) (fun n : Int => [.sc (.int k n)]) := fun l x r h => by
 unfold zbe at h
 split at h
 · split at h
   · rename_i e; cases h; subst e; exact ⟨[_], rfl, F2.refl_ref _⟩
   · cases h
 · cases h
theorem zd4 : Sp (U := U) zf1 (fun b : Bool => [.sc (.bool b)]) := fun l x r h => by
 unfold zf1 at h
 split at h
 · cases h; exact ⟨[_], rfl, F2.refl_ref _⟩
 · cases h
theorem zpk : Sp (U := U) zse (fun s : ByteArray => [.sc (.string s)]) := fun l x r h => by
 unfold zse at h
 split at h
 · cases h; exact ⟨[_], rfl, F2.refl_ref _⟩
 · cases h
theorem zad8 : Sp (U := U) rNil (fun _ : Unit => [.sc (.slice none 0 0)]) := fun l x r h => by
 unfold rNil at h
 split at h
 · cases h; exact ⟨[_], rfl, F2.refl_ref _⟩
 · cases h
theorem zi5 (t : Ty) : Sp (U := U) (rSl t) (fun xs : List (den t) => [.lst t xs]) := fun l x r h => by
 unfold rSl at h
 split at h
 · rw [Option.map_eq_some_iff] at h; obtain ⟨⟨e⟩, _, h2⟩ := h; cases e; cases h2; exact ⟨[_], rfl, F2.refl_ref _⟩
 · cases h; exact ⟨[_], rfl, .cons (.inr ⟨rfl, _, rfl⟩) .nil⟩
 · cases h
theorem zsa : Sp (U := U) zkk zn4 := fun l x r h => by
 unfold zkk at h
 obtain ⟨x0, r0, p0, e0, f0, h⟩ := (zy .i64).step h
 obtain ⟨x1, r1, p1, (e1 : r0 = p1 ++ r1), f1, h⟩ := (zy .i64).step h
 obtain ⟨x2, r2, p2, (e2 : r1 = p2 ++ r2), f2, h⟩ := zd4.step h
 obtain ⟨x3, r3, p3, (e3 : r2 = p3 ++ r3), f3, h⟩ := (zy .u8).step h
 cases h
 exact ⟨(p0 ++ (p1 ++ (p2 ++ p3))), by rw [e0, e1, e2, e3]; simp only [List.append_assoc], (f0.append (f1.append (f2.append f3)))⟩
theorem zoc : Sp (U := U) zhv zki := fun l x r h => by
 unfold zhv at h
 obtain ⟨x0, r0, p0, e0, f0, h⟩ := zpk.step h
 obtain ⟨x1, r1, p1, (e1 : r0 = p1 ++ r1), f1, h⟩ := (zy .u64).step h
 cases h
 exact ⟨(p0 ++ p1), by rw [e0, e1]; simp only [List.append_assoc], (f0.append f1)⟩
theorem z6x : Sp (U := U) zyg z4n := fun l x r h => by
 unfold zyg at h
 obtain ⟨x0, r0, p0, e0, f0, h⟩ := (zy .i64).step h
 obtain ⟨x1, r1, p1, (e1 : r0 = p1 ++ r1), f1, h⟩ := zd4.step h
 obtain ⟨x2, r2, p2, (e2 : r1 = p2 ++ r2), f2, h⟩ := zd4.step h
 cases h
 exact ⟨(p0 ++ (p1 ++ p2)), by rw [e0, e1, e2]; simp only [List.append_assoc], (f0.append (f1.append f2))⟩
theorem znp : Sp (U := U) zm0 z4h := fun l x r h => by
 unfold zm0 at h
 obtain ⟨x0, r0, p0, e0, f0, h⟩ := zpk.step h
 obtain ⟨x1, r1, p1, (e1 : r0 = p1 ++ r1), f1, h⟩ := (zi5 Ty.bool).step h
 cases h
 exact ⟨(p0 ++ p1), by rw [e0, e1]; simp only [List.append_assoc], (f0.append f1)⟩
theorem zth : Sp (U := U) zq3 z4m := fun l x r h => by
 unfold zq3 at h
 obtain ⟨x0, r0, p0, e0, f0, h⟩ := zd4.step h
 obtain ⟨x1, r1, p1, (e1 : r0 = p1 ++ r1), f1, h⟩ := (zy .i64).step h
 obtain ⟨x2, r2, p2, (e2 : r1 = p2 ++ r2), f2, h⟩ := (zy .i64).step h
 cases h
 exact ⟨(p0 ++ (p1 ++ p2)), by rw [e0, e1, e2]; simp only [List.append_assoc], (f0.append (f1.append f2))⟩
theorem zma : Sp (U := U) zlj z1w := fun l x r h => by
 unfold zlj at h
 obtain ⟨x0, r0, p0, e0, f0, h⟩ := (zy .i64).step h
 obtain ⟨x1, r1, p1, (e1 : r0 = p1 ++ r1), f1, h⟩ := (zy .i64).step h
 obtain ⟨x2, r2, p2, (e2 : r1 = p2 ++ r2), f2, h⟩ := (zy .i64).step h
 cases h
 exact ⟨(p0 ++ (p1 ++ p2)), by rw [e0, e1, e2]; simp only [List.append_assoc], (f0.append (f1.append f2))⟩
theorem z05 : Sp (U := U) zwt z59 := fun l x r h => by
 unfold zwt at h
 obtain ⟨x0, r0, p0, e0, f0, h⟩ := (zy .i64).step h
 obtain ⟨x1, r1, p1, (e1 : r0 = p1 ++ r1), f1, h⟩ := (zy .i64).step h
 cases h
 exact ⟨(p0 ++ p1), by rw [e0, e1]; simp only [List.append_assoc], (f0.append f1)⟩
theorem zx3 : Sp (U := U) zon zs0 := fun l x r h => by
 unfold zon at h
 obtain ⟨x0, r0, p0, e0, f0, h⟩ := (zy .i64).step h
 obtain ⟨x1, r1, p1, (e1 : r0 = p1 ++ r1), f1, h⟩ := (zy .i64).step h
 obtain ⟨x2, r2, p2, (e2 : r1 = p2 ++ r2), f2, h⟩ := (zy .i64).step h
 obtain ⟨x3, r3, p3, (e3 : r2 = p3 ++ r3), f3, h⟩ := (zy .i64).step h
 obtain ⟨x4, r4, p4, (e4 : r3 = p4 ++ r4), f4, h⟩ := (zy .i64).step h
 obtain ⟨x5, r5, p5, (e5 : r4 = p5 ++ r5), f5, h⟩ := zth.step h
 obtain ⟨x6, r6, p6, (e6 : r5 = p6 ++ r6), f6, h⟩ := zth.step h
 obtain ⟨x7, r7, p7, (e7 : r6 = p7 ++ r7), f7, h⟩ := zma.step h
 obtain ⟨x8, r8, p8, (e8 : r7 = p8 ++ r8), f8, h⟩ := zma.step h
 obtain ⟨x9, r9, p9, (e9 : r8 = p9 ++ r9), f9, h⟩ := zd4.step h
 obtain ⟨x10, r10, p10, (e10 : r9 = p10 ++ r10), f10, h⟩ := zd4.step h
 obtain ⟨x11, r11, p11, (e11 : r10 = p11 ++ r11), f11, h⟩ := z05.step h
 obtain ⟨x12, r12, p12, (e12 : r11 = p12 ++ r12), f12, h⟩ := zpk.step h
 obtain ⟨x13, r13, p13, (e13 : r12 = p13 ++ r13), f13, h⟩ := zpk.step h
 obtain ⟨x14, r14, p14, (e14 : r13 = p14 ++ r14), f14, h⟩ := (zy .i64).step h
 obtain ⟨x15, r15, p15, (e15 : r14 = p15 ++ r15), f15, h⟩ := (zy .i64).step h
 obtain ⟨x16, r16, p16, (e16 : r15 = p16 ++ r16), f16, h⟩ := (zy .i64).step h
 obtain ⟨x17, r17, p17, (e17 : r16 = p17 ++ r17), f17, h⟩ := (zy .i64).step h
 cases h
 exact ⟨(p0 ++ (p1 ++ (p2 ++ (p3 ++ (p4 ++ (p5 ++ (p6 ++ (p7 ++ (p8 ++ (p9 ++ (p10 ++ (p11 ++ (p12 ++ (p13 ++ (p14 ++ (p15 ++ (p16 ++ p17))))))))))))))))), by rw [e0, e1, e2, e3, e4, e5, e6, e7, e8, e9, e10, e11, e12, e13, e14, e15, e16, e17]; simp only [List.append_assoc], (f0.append (f1.append (f2.append (f3.append (f4.append (f5.append (f6.append (f7.append (f8.append (f9.append (f10.append (f11.append (f12.append (f13.append (f14.append (f15.append (f16.append f17)))))))))))))))))⟩
theorem z8i : Sp (U := U) z0i z6a := fun l x r h => by
 unfold z0i at h
 obtain ⟨x0, r0, p0, e0, f0, h⟩ := (zy .i64).step h
 obtain ⟨x1, r1, p1, (e1 : r0 = p1 ++ r1), f1, h⟩ := (zy .i64).step h
 obtain ⟨x2, r2, p2, (e2 : r1 = p2 ++ r2), f2, h⟩ := (zy .i64).step h
 obtain ⟨x3, r3, p3, (e3 : r2 = p3 ++ r3), f3, h⟩ := (zy .i64).step h
 cases h
 exact ⟨(p0 ++ (p1 ++ (p2 ++ p3))), by rw [e0, e1, e2, e3]; simp only [List.append_assoc], (f0.append (f1.append (f2.append f3)))⟩
theorem z06 : Sp (U := U) zwu z6b := fun l x r h => by
 unfold zwu at h
 obtain ⟨x0, r0, p0, e0, f0, h⟩ := znp.step h
 obtain ⟨x1, r1, p1, (e1 : r0 = p1 ++ r1), f1, h⟩ := (zi5 Ty.zS).step h
 obtain ⟨x2, r2, p2, (e2 : r1 = p2 ++ r2), f2, h⟩ := (zi5 Ty.yB).step h
 cases h
 exact ⟨(p0 ++ (p1 ++ p2)), by rw [e0, e1, e2]; simp only [List.append_assoc], (f0.append (f1.append f2))⟩
theorem z46 : Sp (U := U) zvu z1v := fun l x r h => by
 unfold zvu at h
 obtain ⟨x0, r0, p0, e0, f0, h⟩ := (zi5 Ty.str).step h
 obtain ⟨x1, r1, p1, (e1 : r0 = p1 ++ r1), f1, h⟩ := (zy .i64).step h
 obtain ⟨x2, r2, p2, (e2 : r1 = p2 ++ r2), f2, h⟩ := (zy .i64).step h
 obtain ⟨x3, r3, p3, (e3 : r2 = p3 ++ r3), f3, h⟩ := (zy .i64).step h
 obtain ⟨x4, r4, p4, (e4 : r3 = p4 ++ r4), f4, h⟩ := (zy .i64).step h
 obtain ⟨x5, r5, p5, (e5 : r4 = p5 ++ r5), f5, h⟩ := znp.step h
 cases h
 exact ⟨(p0 ++ (p1 ++ (p2 ++ (p3 ++ (p4 ++ p5))))), by rw [e0, e1, e2, e3, e4, e5]; simp only [List.append_assoc], (f0.append (f1.append (f2.append (f3.append (f4.append f5)))))⟩
theorem z2p : Sp (U := U) zzh z9r := fun l x r h => by
 unfold zzh at h
 obtain ⟨x0, r0, p0, e0, f0, h⟩ := (zy .i64).step h
 obtain ⟨x1, r1, p1, (e1 : r0 = p1 ++ r1), f1, h⟩ := zpk.step h
 cases h
 exact ⟨(p0 ++ p1), by rw [e0, e1]; simp only [List.append_assoc], (f0.append f1)⟩
theorem z2q : Sp (U := U) ztq zz1 := fun l x r h => by
 unfold ztq at h
 obtain ⟨x0, r0, p0, e0, f0, h⟩ := zpk.step h
 obtain ⟨x1, r1, p1, (e1 : r0 = p1 ++ r1), f1, h⟩ := (zy .i64).step h
 obtain ⟨x2, r2, p2, (e2 : r1 = p2 ++ r2), f2, h⟩ := zma.step h
 obtain ⟨x3, r3, p3, (e3 : r2 = p3 ++ r3), f3, h⟩ := z2p.step h
 obtain ⟨x4, r4, p4, (e4 : r3 = p4 ++ r4), f4, h⟩ := zpk.step h
 obtain ⟨x5, r5, p5, (e5 : r4 = p5 ++ r5), f5, h⟩ := (zy .i64).step h
 obtain ⟨x6, r6, p6, (e6 : r5 = p6 ++ r6), f6, h⟩ := (zy .i64).step h
 cases h
 exact ⟨(p0 ++ (p1 ++ (p2 ++ (p3 ++ (p4 ++ (p5 ++ p6)))))), by rw [e0, e1, e2, e3, e4, e5, e6]; simp only [List.append_assoc], (f0.append (f1.append (f2.append (f3.append (f4.append (f5.append f6))))))⟩
theorem zx2 : Sp (U := U) zom zl2 := fun l x r h => by
 unfold zom at h
 obtain ⟨x0, r0, p0, e0, f0, h⟩ := (zy .i64).step h
 obtain ⟨x1, r1, p1, (e1 : r0 = p1 ++ r1), f1, h⟩ := (zi5 (Ty.int .i64)).step h
 cases h
 exact ⟨(p0 ++ p1), by rw [e0, e1]; simp only [List.append_assoc], (f0.append f1)⟩
theorem z2r : Sp (U := U) ztr zz2 := fun l x r h => by
 unfold ztr at h
 obtain ⟨x0, r0, p0, e0, f0, h⟩ := (zy .i64).step h
 obtain ⟨x1, r1, p1, (e1 : r0 = p1 ++ r1), f1, h⟩ := (zy .i64).step h
 obtain ⟨x2, r2, p2, (e2 : r1 = p2 ++ r2), f2, h⟩ := (zy .i64).step h
 obtain ⟨x3, r3, p3, (e3 : r2 = p3 ++ r3), f3, h⟩ := (zy .i64).step h
 cases h
 exact ⟨(p0 ++ (p1 ++ (p2 ++ p3))), by rw [e0, e1, e2, e3]; simp only [List.append_assoc], (f0.append (f1.append (f2.append f3)))⟩
theorem zvc : Sp (U := U) zqg zjk := fun l x r h => by
 unfold zqg at h
 obtain ⟨x0, r0, p0, e0, f0, h⟩ := (zi5 Ty.zF).step h
 obtain ⟨x1, r1, p1, (e1 : r0 = p1 ++ r1), f1, h⟩ := (zi5 Ty.zI).step h
 obtain ⟨x2, r2, p2, (e2 : r1 = p2 ++ r2), f2, h⟩ := (zi5 Ty.zN).step h
 cases h
 exact ⟨(p0 ++ (p1 ++ p2)), by rw [e0, e1, e2]; simp only [List.append_assoc], (f0.append (f1.append f2))⟩
theorem z45 : Sp (U := U) zvt z1u := fun l x r h => by
 unfold zvt at h
 obtain ⟨x0, r0, p0, e0, f0, h⟩ := (zi5 Ty.str).step h
 obtain ⟨x1, r1, p1, (e1 : r0 = p1 ++ r1), f1, h⟩ := (zy .i64).step h
 obtain ⟨x2, r2, p2, (e2 : r1 = p2 ++ r2), f2, h⟩ := (zy .i64).step h
 obtain ⟨x3, r3, p3, (e3 : r2 = p3 ++ r3), f3, h⟩ := (zy .i64).step h
 cases h
 exact ⟨(p0 ++ (p1 ++ (p2 ++ p3))), by rw [e0, e1, e2, e3]; simp only [List.append_assoc], (f0.append (f1.append (f2.append f3)))⟩
theorem zy5 : Sp (U := U) zts z4l := fun l x r h => by
 unfold zts at h
 obtain ⟨x0, r0, p0, e0, f0, h⟩ := (zi5 Ty.Number).step h
 obtain ⟨x1, r1, p1, (e1 : r0 = p1 ++ r1), f1, h⟩ := (zy .i64).step h
 obtain ⟨x2, r2, p2, (e2 : r1 = p2 ++ r2), f2, h⟩ := znp.step h
 obtain ⟨x3, r3, p3, (e3 : r2 = p3 ++ r3), f3, h⟩ := (zy .i64).step h
 obtain ⟨x4, r4, p4, (e4 : r3 = p4 ++ r4), f4, h⟩ := (zi5 (Ty.int .i64)).step h
 obtain ⟨x5, r5, p5, (e5 : r4 = p5 ++ r5), f5, h⟩ := (zi5 Ty.str).step h
 obtain ⟨x6, r6, p6, (e6 : r5 = p6 ++ r6), f6, h⟩ := (zy .i64).step h
 obtain ⟨x7, r7, p7, (e7 : r6 = p7 ++ r7), f7, h⟩ := (zy .i64).step h
 obtain ⟨x8, r8, p8, (e8 : r7 = p8 ++ r8), f8, h⟩ := (zy .i64).step h
 obtain ⟨x9, r9, p9, (e9 : r8 = p9 ++ r9), f9, h⟩ := (zy .i64).step h
 cases h
 exact ⟨(p0 ++ (p1 ++ (p2 ++ (p3 ++ (p4 ++ (p5 ++ (p6 ++ (p7 ++ (p8 ++ p9))))))))), by rw [e0, e1, e2, e3, e4, e5, e6, e7, e8, e9]; simp only [List.append_assoc], (f0.append (f1.append (f2.append (f3.append (f4.append (f5.append (f6.append (f7.append (f8.append f9)))))))))⟩
theorem zy4 : Sp (U := U) ztp z4j := fun l x r h => by
 unfold ztp at h
 obtain ⟨x0, r0, p0, e0, f0, h⟩ := znp.step h
 obtain ⟨x1, r1, p1, (e1 : r0 = p1 ++ r1), f1, h⟩ := (zy .i64).step h
 obtain ⟨x2, r2, p2, (e2 : r1 = p2 ++ r2), f2, h⟩ := (zi5 (Ty.int .i64)).step h
 obtain ⟨x3, r3, p3, (e3 : r2 = p3 ++ r3), f3, h⟩ := (zi5 Ty.str).step h
 obtain ⟨x4, r4, p4, (e4 : r3 = p4 ++ r4), f4, h⟩ := (zy .i64).step h
 obtain ⟨x5, r5, p5, (e5 : r4 = p5 ++ r5), f5, h⟩ := (zy .i64).step h
 obtain ⟨x6, r6, p6, (e6 : r5 = p6 ++ r6), f6, h⟩ := (zy .i64).step h
 cases h
 exact ⟨(p0 ++ (p1 ++ (p2 ++ (p3 ++ (p4 ++ (p5 ++ p6)))))), by rw [e0, e1, e2, e3, e4, e5, e6]; simp only [List.append_assoc], (f0.append (f1.append (f2.append (f3.append (f4.append (f5.append f6))))))⟩
theorem z6w : Sp (U := U) zyf z4k := fun l x r h => by
 unfold zyf at h
 obtain ⟨x0, r0, p0, e0, f0, h⟩ := (zy .i64).step h
 obtain ⟨x1, r1, p1, (e1 : r0 = p1 ++ r1), f1, h⟩ := (zy .i64).step h
 cases h
 exact ⟨(p0 ++ p1), by rw [e0, e1]; simp only [List.append_assoc], (f0.append f1)⟩
theorem zy6 : Sp (U := U) ztt z4o := fun l x r h => by
 unfold ztt at h
 obtain ⟨x0, r0, p0, e0, f0, h⟩ := (zy .i64).step h
 obtain ⟨x1, r1, p1, (e1 : r0 = p1 ++ r1), f1, h⟩ := (zy .i64).step h
 cases h
 exact ⟨(p0 ++ p1), by rw [e0, e1]; simp only [List.append_assoc], (f0.append f1)⟩
theorem z6v : Sp (U := U) zye z4i := fun l x r h => by
 unfold zye at h
 obtain ⟨x0, r0, p0, e0, f0, h⟩ := (zy .i64).step h
 obtain ⟨x1, r1, p1, (e1 : r0 = p1 ++ r1), f1, h⟩ := zy6.step h
 obtain ⟨x2, r2, p2, (e2 : r1 = p2 ++ r2), f2, h⟩ := (zy .i64).step h
 cases h
 exact ⟨(p0 ++ (p1 ++ p2)), by rw [e0, e1, e2]; simp only [List.append_assoc], (f0.append (f1.append f2))⟩
theorem zx1 : Sp (U := U) zoi zsy := fun l x r h => by
 unfold zoi at h
 obtain ⟨x0, r0, p0, e0, f0, h⟩ := (zy .i64).step h
 obtain ⟨x1, r1, p1, (e1 : r0 = p1 ++ r1), f1, h⟩ := (zy .i64).step h
 cases h
 exact ⟨(p0 ++ p1), by rw [e0, e1]; simp only [List.append_assoc], (f0.append f1)⟩
theorem zy3 : Sp (U := U) zp4 zu1 := fun l x r h => by
 unfold zp4 at h
 obtain ⟨x0, r0, p0, e0, f0, h⟩ := zd4.step h
 obtain ⟨x1, r1, p1, (e1 : r0 = p1 ++ r1), f1, h⟩ := zd4.step h
 obtain ⟨x2, r2, p2, (e2 : r1 = p2 ++ r2), f2, h⟩ := zd4.step h
 obtain ⟨x3, r3, p3, (e3 : r2 = p3 ++ r3), f3, h⟩ := zd4.step h
 obtain ⟨x4, r4, p4, (e4 : r3 = p4 ++ r4), f4, h⟩ := zd4.step h
 obtain ⟨x5, r5, p5, (e5 : r4 = p5 ++ r5), f5, h⟩ := zd4.step h
 obtain ⟨x6, r6, p6, (e6 : r5 = p6 ++ r6), f6, h⟩ := zd4.step h
 obtain ⟨x7, r7, p7, (e7 : r6 = p7 ++ r7), f7, h⟩ := zd4.step h
 obtain ⟨x8, r8, p8, (e8 : r7 = p8 ++ r8), f8, h⟩ := zd4.step h
 obtain ⟨x9, r9, p9, (e9 : r8 = p9 ++ r9), f9, h⟩ := zd4.step h
 obtain ⟨x10, r10, p10, (e10 : r9 = p10 ++ r10), f10, h⟩ := zd4.step h
 obtain ⟨x11, r11, p11, (e11 : r10 = p11 ++ r11), f11, h⟩ := zd4.step h
 obtain ⟨x12, r12, p12, (e12 : r11 = p12 ++ r12), f12, h⟩ := zd4.step h
 obtain ⟨x13, r13, p13, (e13 : r12 = p13 ++ r13), f13, h⟩ := zd4.step h
 obtain ⟨x14, r14, p14, (e14 : r13 = p14 ++ r14), f14, h⟩ := (zy .i64).step h
 obtain ⟨x15, r15, p15, (e15 : r14 = p15 ++ r15), f15, h⟩ := (zy .i64).step h
 cases h
 exact ⟨(p0 ++ (p1 ++ (p2 ++ (p3 ++ (p4 ++ (p5 ++ (p6 ++ (p7 ++ (p8 ++ (p9 ++ (p10 ++ (p11 ++ (p12 ++ (p13 ++ (p14 ++ p15))))))))))))))), by rw [e0, e1, e2, e3, e4, e5, e6, e7, e8, e9, e10, e11, e12, e13, e14, e15]; simp only [List.append_assoc], (f0.append (f1.append (f2.append (f3.append (f4.append (f5.append (f6.append (f7.append (f8.append (f9.append (f10.append (f11.append (f12.append (f13.append (f14.append f15)))))))))))))))⟩
theorem zu5 : Sp (U := U) zl7 zp9 := fun l x r h => by
 unfold zl7 at h
 obtain ⟨x0, r0, p0, e0, f0, h⟩ := zy5.step h
 obtain ⟨x1, r1, p1, (e1 : r0 = p1 ++ r1), f1, h⟩ := z06.step h
 obtain ⟨x2, r2, p2, (e2 : r1 = p2 ++ r2), f2, h⟩ := (zy .i64).step h
 cases h
 exact ⟨(p0 ++ (p1 ++ p2)), by rw [e0, e1, e2]; simp only [List.append_assoc], (f0.append (f1.append f2))⟩
theorem ztg : Sp (U := U) zlf zp0 := fun l x r h => by
 unfold zlf at h
 obtain ⟨x0, r0, p0, e0, f0, h⟩ := zvc.step h
 obtain ⟨x1, r1, p1, (e1 : r0 = p1 ++ r1), f1, h⟩ := zy4.step h
 obtain ⟨x2, r2, p2, (e2 : r1 = p2 ++ r2), f2, h⟩ := (zi5 (Ty.int .i64)).step h
 obtain ⟨x3, r3, p3, (e3 : r2 = p3 ++ r3), f3, h⟩ := (zy .i64).step h
 cases h
 exact ⟨(p0 ++ (p1 ++ (p2 ++ p3))), by rw [e0, e1, e2, e3]; simp only [List.append_assoc], (f0.append (f1.append (f2.append f3)))⟩
theorem zuv : Sp (U := U) zo6 zxs := fun l x r h => by
 unfold zo6 at h
 obtain ⟨x0, r0, p0, e0, f0, h⟩ := zd4.step h
 obtain ⟨x1, r1, p1, (e1 : r0 = p1 ++ r1), f1, h⟩ := (zi5 (Ty.int .i64)).step h
 cases h
 exact ⟨(p0 ++ p1), by rw [e0, e1]; simp only [List.append_assoc], (f0.append f1)⟩
theorem zx0 : Sp (U := U) zof zsx := fun l x r h => by
 unfold zof at h
 obtain ⟨x0, r0, p0, e0, f0, h⟩ := (zy .i64).step h
 obtain ⟨x1, r1, p1, (e1 : r0 = p1 ++ r1), f1, h⟩ := zma.step h
 obtain ⟨x2, r2, p2, (e2 : r1 = p2 ++ r2), f2, h⟩ := zd4.step h
 cases h
 exact ⟨(p0 ++ (p1 ++ p2)), by rw [e0, e1, e2]; simp only [List.append_assoc], (f0.append (f1.append f2))⟩
theorem zw7 : Sp (U := U) znr zr0 := fun l x r h => by
 unfold znr at h
 obtain ⟨x0, r0, p0, e0, f0, h⟩ := zuv.step h
 obtain ⟨x1, r1, p1, (e1 : r0 = p1 ++ r1), f1, h⟩ := (zi5 (Ty.int .i64)).step h
 cases h
 exact ⟨(p0 ++ p1), by rw [e0, e1]; simp only [List.append_assoc], (f0.append f1)⟩
theorem zvd : Sp (U := U) zsp z6c := fun l x r h => by
 unfold zsp at h
 obtain ⟨x0, r0, p0, e0, f0, h⟩ := (zy .u64).step h
 obtain ⟨x1, r1, p1, (e1 : r0 = p1 ++ r1), f1, h⟩ := (zy .u64).step h
 obtain ⟨x2, r2, p2, (e2 : r1 = p2 ++ r2), f2, h⟩ := (zy .u64).step h
 obtain ⟨x3, r3, p3, (e3 : r2 = p3 ++ r3), f3, h⟩ := (zy .u64).step h
 cases h
 exact ⟨(p0 ++ (p1 ++ (p2 ++ p3))), by rw [e0, e1, e2, e3]; simp only [List.append_assoc], (f0.append (f1.append (f2.append f3)))⟩
theorem zu4 : Sp (U := U) zl6 zp8 := fun l x r h => by
 unfold zl6 at h
 obtain ⟨x0, r0, p0, e0, f0, h⟩ := zd4.step h
 obtain ⟨x1, r1, p1, (e1 : r0 = p1 ++ r1), f1, h⟩ := zvd.step h
 obtain ⟨x2, r2, p2, (e2 : r1 = p2 ++ r2), f2, h⟩ := zvd.step h
 cases h
 exact ⟨(p0 ++ (p1 ++ p2)), by rw [e0, e1, e2]; simp only [List.append_assoc], (f0.append (f1.append f2))⟩
theorem sp : ∀ t : Ty, Sp (U := U) (rd t) (enc t)
 | .int k => zy k
 | .bool => zd4
 | .str => zpk
 | .nil => zad8
 | .sl t => zi5 t
 | .st 0 => zsa
 | .st 1 => zoc
 | .st 2 => z6x
 | .st 3 => znp
 | .st 4 => zth
 | .st 5 => zma
 | .st 6 => z05
 | .st 7 => zx3
 | .st 8 => z8i
 | .st 9 => z06
 | .st 10 => z46
 | .st 11 => z2p
 | .st 12 => z2q
 | .st 13 => zx2
 | .st 14 => z2r
 | .st 15 => zvc
 | .st 16 => z45
 | .st 17 => zy5
 | .st 18 => zy4
 | .st 19 => z6w
 | .st 20 => zy6
 | .st 21 => z6v
 | .st 22 => zx1
 | .st 23 => zy3
 | .st 24 => zu5
 | .st 25 => ztg
 | .st 26 => zuv
 | .st 27 => zx0
 | .st 28 => zw7
 | .st 29 => zvd
 | .st 30 => zu4
 | .st (_ + 31) => fun l x r h => by cases h
theorem zaby : ∀ (t : Ty) (x : den t), (enc t x).length = szT t
 | .int _, _ => rfl
 | .bool, _ => rfl
 | .str, _ => rfl
 | .nil, _ => rfl
 | .sl _, _ => rfl
 | .st 0, _ => rfl
 | .st 1, _ => rfl
 | .st 2, _ => rfl
 | .st 3, _ => rfl
 | .st 4, _ => rfl
 | .st 5, _ => rfl
 | .st 6, _ => rfl
 | .st 7, _ => rfl
 | .st 8, _ => rfl
 | .st 9, _ => rfl
 | .st 10, _ => rfl
 | .st 11, _ => rfl
 | .st 12, _ => rfl
 | .st 13, _ => rfl
 | .st 14, _ => rfl
 | .st 15, _ => rfl
 | .st 16, _ => rfl
 | .st 17, _ => rfl
 | .st 18, _ => rfl
 | .st 19, _ => rfl
 | .st 20, _ => rfl
 | .st 21, _ => rfl
 | .st 22, _ => rfl
 | .st 23, _ => rfl
 | .st 24, _ => rfl
 | .st 25, _ => rfl
 | .st 26, _ => rfl
 | .st 27, _ => rfl
 | .st 28, _ => rfl
 | .st 29, _ => rfl
 | .st 30, _ => rfl
 | .st (_ + 31), _ => rfl
theorem zaem : ∀ t : Ty, 0 < szT t
 | .int _ => Nat.one_pos
 | .bool => Nat.one_pos
 | .str => Nat.one_pos
 | .nil => Nat.one_pos
 | .sl _ => Nat.one_pos
 | .st 0 => (by decide : 0 < 4)
 | .st 1 => (by decide : 0 < 2)
 | .st 2 => (by decide : 0 < 3)
 | .st 3 => (by decide : 0 < 2)
 | .st 4 => (by decide : 0 < 3)
 | .st 5 => (by decide : 0 < 3)
 | .st 6 => (by decide : 0 < 2)
 | .st 7 => (by decide : 0 < 27)
 | .st 8 => (by decide : 0 < 4)
 | .st 9 => (by decide : 0 < 4)
 | .st 10 => (by decide : 0 < 7)
 | .st 11 => (by decide : 0 < 2)
 | .st 12 => (by decide : 0 < 10)
 | .st 13 => (by decide : 0 < 2)
 | .st 14 => (by decide : 0 < 4)
 | .st 15 => (by decide : 0 < 3)
 | .st 16 => (by decide : 0 < 4)
 | .st 17 => (by decide : 0 < 11)
 | .st 18 => (by decide : 0 < 8)
 | .st 19 => (by decide : 0 < 2)
 | .st 20 => (by decide : 0 < 2)
 | .st 21 => (by decide : 0 < 4)
 | .st 22 => (by decide : 0 < 2)
 | .st 23 => (by decide : 0 < 16)
 | .st 24 => (by decide : 0 < 16)
 | .st 25 => (by decide : 0 < 13)
 | .st 26 => (by decide : 0 < 2)
 | .st 27 => (by decide : 0 < 5)
 | .st 28 => (by decide : 0 < 3)
 | .st 29 => (by decide : 0 < 4)
 | .st 30 => (by decide : 0 < 9)
 | .st (_ + 31) => Nat.one_pos
theorem zagc : ∀ (t : Ty) (x : den t), (enc t x).all (fzc (U := U)) = true
 | .int _, _ => rfl
 | .bool, _ => rfl
 | .str, _ => rfl
 | .nil, _ => rfl
 | .sl _, _ => rfl
 | .st 0, _ => rfl
 | .st 1, _ => rfl
 | .st 2, _ => rfl
 | .st 3, _ => rfl
 | .st 4, _ => rfl
 | .st 5, _ => rfl
 | .st 6, _ => rfl
 | .st 7, _ => rfl
 | .st 8, _ => rfl
 | .st 9, _ => rfl
 | .st 10, _ => rfl
 | .st 11, _ => rfl
 | .st 12, _ => rfl
 | .st 13, _ => rfl
 | .st 14, _ => rfl
 | .st 15, _ => rfl
 | .st 16, _ => rfl
 | .st 17, _ => rfl
 | .st 18, _ => rfl
 | .st 19, _ => rfl
 | .st 20, _ => rfl
 | .st 21, _ => rfl
 | .st 22, _ => rfl
 | .st 23, _ => rfl
 | .st 24, _ => rfl
 | .st 25, _ => rfl
 | .st 26, _ => rfl
 | .st 27, _ => rfl
 | .st 28, _ => rfl
 | .st 29, _ => rfl
 | .st 30, _ => rfl
 | .st (_ + 31), _ => rfl
theorem zac9 : ∀ t : Ty, zab3 t = true → ∀ x : den t, (enc t x).all (z8k (U := U)) = true
 | .int _, _, _ => rfl
 | .bool, _, _ => rfl
 | .str, _, _ => rfl
 | .nil, _, _ => rfl
 | .sl _, h, _ => by cases h
 | .st 0, _, _ => rfl
 | .st 1, _, _ => rfl
 | .st 2, _, _ => rfl
 | .st 3, h, _ => by cases h
 | .st 4, _, _ => rfl
 | .st 5, _, _ => rfl
 | .st 6, _, _ => rfl
 | .st 7, _, _ => rfl
 | .st 8, _, _ => rfl
 | .st 9, h, _ => by cases h
 | .st 10, h, _ => by cases h
 | .st 11, _, _ => rfl
 | .st 12, _, _ => rfl
 | .st 13, h, _ => by cases h
 | .st 14, _, _ => rfl
 | .st 15, h, _ => by cases h
 | .st 16, h, _ => by cases h
 | .st 17, h, _ => by cases h
 | .st 18, h, _ => by cases h
 | .st 19, _, _ => rfl
 | .st 20, _, _ => rfl
 | .st 21, _, _ => rfl
 | .st 22, _, _ => rfl
 | .st 23, _, _ => rfl
 | .st 24, h, _ => by cases h
 | .st 25, h, _ => by cases h
 | .st 26, h, _ => by cases h
 | .st 27, _, _ => rfl
 | .st 28, h, _ => by cases h
 | .st 29, _, _ => rfl
 | .st 30, _, _ => rfl
 | .st (_ + 31), _, _ => rfl
theorem zaer : ∀ t : Ty, aggT t = false → szT t = 1
 | .int _, _ => rfl
 | .bool, _ => rfl
 | .str, _ => rfl
 | .nil, _ => rfl
 | .sl _, _ => rfl
 | .st _, h => by cases h
theorem zmt : ELaws En where
 sz := zaby
 pos := zaem
 fz := fun t x c hc => zabh (z6h (zagc t x) hc)
 one := zaer
 reify := fun t cs x h => by
  have h' : reify t cs = some x := h; unfold reify at h'; rw [Option.bind_eq_some_iff] at h'; obtain ⟨⟨y, r⟩, h1, h2⟩ := h'; cases r with
  | cons => cases h2
  | nil =>
   cases h2; obtain ⟨p, e, f⟩ := sp t cs _ _ h1; rw [List.append_nil] at e; subst e; exact ⟨f.length.trans (zaby t _), fun j c c' g1 g2 => f.get j c c' g1 g2⟩
 flat := fun t ht x c hc => z49 (z6h (zac9 t ht x) hc)
 slAgg := fun _ => rfl
 slEnc := fun _ _ => rfl
 ofTo := fun _ _ => rfl
 u8sz := rfl
 u8 := fun x => ⟨x, rfl⟩
 toInts := fun xs i x n h1 h2 => by cases h2; exact h1
 toIntsLen := fun _ => rfl
 ofInts := fun l i n h => ⟨n, h, rfl⟩
 ofIntsLen := fun _ => rfl
theorem zz7 {O : List (Nat × Ct U)} {X : List (Nat × Nat)} {J : List (Nat × Amx.Spec U × List Ty)} {pre : List (Nat × List Nat)} {lits ro pk bj : List Nat} : CLaws (zt5 O X J pre lits ro pk bj) :=
 zabp zmt (l := zab0) rfl (by kernel_rfl)
def ctv (ps : List (Md U)) (res outs : List Ty) (fr : List Nat) (ts : List Ty) (f : Fnc U ts (PT U (res ++ outs))) : Ct U := { params := ps, results := res, outs := outs, fresh := fr, fn := app U ts f }
def cvv (res ts : List Ty) (f : Fnc U ts (PT U (res ++ []))) : Ct U := ctv (ts.map .val) res [] [] ts f
def K0 : Ctx U := zt5 [] [] [] [] [] [] [] []
@[reducible] def Kq : Type := Kp K0
structure Cf where
 X : List (Nat × Nat) := []
 J : List (Nat × Amx.Spec U × List Ty) := []
 pre : List (Nat × List Nat) := []
 lits : List Nat := []
 ro : List Nat := []
 pk : List Nat := []
 bj : List Nat := []
def cxo (l : List Kq) (c : Cf) : Ctx U := zt5 (Osk l) c.X c.J c.pre c.lits c.ro c.pk c.bj
theorem go (l : List Kq) (c : Cf) {f : FuncId} {fn : Func} {ps : List (Md U)} {res outs : List Ty} {fr : List Nat} {ts : List Ty} {F : Fnc U ts (PT U (res ++ outs))} (L : List (Nat × Cut U (PT U ((ctv ps res outs fr ts F).results ++ (ctv ps res outs fr ts F).outs)))) (hf : Proofs.Tryz.prog.funcs[f]? = some fn) (hn : ((fn.name == "runtime.NumGoroutine") || !fn.body.isSome) = false := by kernel_rfl)
 (hok : zz0 (cxo l c) (ctv ps res outs fr ts F) = fun _ => true := by kernel_rfl) (hr : (cur ts (runF (cxo l c) fn (ctv ps res outs fr ts F) (pick L)) : Fnc U ts (PT U (res ++ outs))) = F := by kernel_rfl) (hL : Ls (cxo l c) fn (ctv ps res outs fr ts F) (pick L) L := by exact trivial) (hX : ∀ p ∈ c.X, zwl Proofs.Tryz.prog p := by exact ze0) : zh5 K0 f (ctv ps res outs fr ts F) := by
 rw [Bool.or_eq_false_iff] at hn
 exact zh5.ctx (C := cxo l c) (C' := K0) rfl rfl rfl (z9g (C := cxo l c) zz7 (zaf8 (C := cxo l c) (C0 := K0) (l := l) rfl rfl rfl rfl) (zyz (l := c.X) rfl hX) hf hn.1 (by simpa using hn.2) (zaez rfl hL) (fun y => congrFun hok y) (zade hr))
theorem zafl : zwl Proofs.Tryz.prog (331, 2) := zab7 Proofs.Tryz.func331 (by kernel_rfl) (by kernel_rfl) (by kernel_rfl) (by kernel_rfl)
theorem zabv : zwl Proofs.Tryz.prog (347, 0) := z78 Proofs.Tryz.func347 (by kernel_rfl) (by kernel_rfl) (by kernel_rfl) (by kernel_rfl)
theorem zafk : zwl Proofs.Tryz.prog (355, 1) := z77 Proofs.Tryz.func355 (by kernel_rfl) (by kernel_rfl) (by kernel_rfl) (by kernel_rfl)
end
end Go.Proofs.YtppbpnknfigboaaGreatDoor.M
