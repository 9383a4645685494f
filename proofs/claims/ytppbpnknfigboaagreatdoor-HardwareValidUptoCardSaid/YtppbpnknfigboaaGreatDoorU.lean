/- The program's types, and their cells. -/
import Derived.Test.YtppbpnknfigboaaGreatDoorA3
import Derived.Test.YtppbpnknfigboaaGreatDoorShelf
import Derived.KernelRfl
namespace Go.Proofs.YtppbpnknfigboaaGreatDoor.M
open Go Go.Amx
set_option linter.unusedVariables false
set_option maxRecDepth 100000
noncomputable section
structure zP where
 fields : Int
 types : Int
structure zZ where
 x : Int
 y : Int
 signed : Bool
 code : Int
structure zW where
 msg : ByteArray
 addr : Int
structure zI where
 Registers : Int
 yH : Bool
 yF : Bool
structure Storage where
 Bytes : ByteArray
 Tags : List Bool
structure zO where
 Based : Bool
 Pointer : Int
 Offset : Int
structure DataType where
 Kind : Int
 Length : Int
 Scale : Int
structure Number where
 N : Int
 Scale : Int
structure zB where
 Op : Int
 R : Int
 A : Int
 B : Int
 zK : Int
 Place : zO
 From : zO
 zG : DataType
 Second : DataType
 Half : Bool
 zM : Bool
 Number : Number
 Text : ByteArray
 Other : ByteArray
 Mask : Int
 Target : Int
 Pointer : Int
 Source : Int
structure zT where
 From : Int
 To : Int
 Exception : Int
 Handler : Int
structure zF where
 Storage : Storage
 zD : List zB
 zN : List zT
structure zR where
 Lines : List ByteArray
 Status : Int
 Exception : Int
 Marks : Int
 Steps : Int
 Storage : Storage
structure Value where
 N : Int
 S : ByteArray
structure yC where
 Name : ByteArray
 Kind : Int
 zG : DataType
 Value : Value
 Base : ByteArray
 Offset : Int
 Target : Int
structure zX where
 Op : Int
 Args : List Int
structure yB where
 From : Int
 To : Int
 Exception : Int
 Handler : Int
structure yE where
 yK : List yC
 zD : List zX
 yL : List yB
structure yG where
 Lines : List ByteArray
 Status : Int
 Exception : Int
 Steps : Int
structure zA where
 Registers : List Number
 Condition : Int
 Storage : Storage
 At : Int
 Stack : List Int
 Lines : List ByteArray
 Status : Int
 Exception : Int
 Marks : Int
 Steps : Int
structure yA where
 Storage : Storage
 At : Int
 Stack : List Int
 Lines : List ByteArray
 Status : Int
 Exception : Int
 Steps : Int
structure yI where
 Part : Int
 Index : Int
structure Address where
 zY : Int
 Offset : Int
structure Pointer where
 Kind : Int
 Address : Address
 Authority : Int
structure zL where
 R : Bool
 A : Bool
 B : Bool
 Place : Bool
 From : Bool
 Half : Bool
 Number : Bool
 zK : Bool
 Mask : Bool
 Target : Bool
 Text : Bool
 Other : Bool
 Pointer : Bool
 Source : Bool
 zG : Int
 Second : Int
structure zC where
 zA : zA
 code : zF
 raised : Int
structure yD where
 yE : yE
 yA : yA
 layout : List Int
 raised : Int
structure zJ where
 Below : Bool
 zU : List Int
structure zV where
 Op : Int
 zG : DataType
 Half : Bool
structure zS where
 Top : zJ
 yJ : List Int
structure zH where
 e0 : Int
 e1 : Int
 e2 : Int
 e3 : Int
structure zQ where
 below : Bool
 amount : zH
 division : zH
inductive Ty where
 | int (k : IntKind)
 | bool
 | str
 | nil
 | sl (t : Ty)
 | st (n : Nat)
@[reducible] def z56 : Nat → Type
 | 0 => zP
 | 1 => zZ
 | 2 => zW
 | 3 => zI
 | 4 => Storage
 | 5 => zO
 | 6 => DataType
 | 7 => Number
 | 8 => zB
 | 9 => zT
 | 10 => zF
 | 11 => zR
 | 12 => Value
 | 13 => yC
 | 14 => zX
 | 15 => yB
 | 16 => yE
 | 17 => yG
 | 18 => zA
 | 19 => yA
 | 20 => yI
 | 21 => Address
 | 22 => Pointer
 | 23 => zL
 | 24 => zC
 | 25 => yD
 | 26 => zJ
 | 27 => zV
 | 28 => zS
 | 29 => zH
 | 30 => zQ
 | _ + 31 => Unit
@[reducible] def den : Ty → Type
 | .int _ => Int
 | .bool => Bool
 | .str => ByteArray
 | .nil => Unit
 | .sl t => List (den t)
 | .st n => z56 n
def eqTy : (a b : Ty) → Option (PLift (a = b))
 | .int j, .int k => if h : j = k then some ⟨by rw [h]⟩ else none
 | .bool, .bool => some ⟨rfl⟩
 | .str, .str => some ⟨rfl⟩
 | .nil, .nil => some ⟨rfl⟩
 | .sl a, .sl b => match eqTy a b with
  | some ⟨h⟩ => some ⟨by rw [h]⟩
  | none => none
 | .st i, .st j => if h : i = j then some ⟨by rw [h]⟩ else none
 | _, _ => none
@[reducible] def U : Uni := { Ty := Ty, den := den, eqTy := eqTy }
@[reducible] def T6 : Ty := Ty.int .i64
def w6 (n : Int) : Int := IntKind.wrap .i64 n
@[reducible] def Ty.zP : Ty := .st 0
@[reducible] def Ty.zZ : Ty := .st 1
@[reducible] def Ty.zW : Ty := .st 2
@[reducible] def Ty.zI : Ty := .st 3
@[reducible] def Ty.Storage : Ty := .st 4
@[reducible] def Ty.zO : Ty := .st 5
@[reducible] def Ty.DataType : Ty := .st 6
@[reducible] def Ty.Number : Ty := .st 7
@[reducible] def Ty.zB : Ty := .st 8
@[reducible] def Ty.zT : Ty := .st 9
@[reducible] def Ty.zF : Ty := .st 10
@[reducible] def Ty.zR : Ty := .st 11
@[reducible] def Ty.Value : Ty := .st 12
@[reducible] def Ty.yC : Ty := .st 13
@[reducible] def Ty.zX : Ty := .st 14
@[reducible] def Ty.yB : Ty := .st 15
@[reducible] def Ty.yE : Ty := .st 16
@[reducible] def Ty.yG : Ty := .st 17
@[reducible] def Ty.zA : Ty := .st 18
@[reducible] def Ty.yA : Ty := .st 19
@[reducible] def Ty.yI : Ty := .st 20
@[reducible] def Ty.Address : Ty := .st 21
@[reducible] def Ty.Pointer : Ty := .st 22
@[reducible] def Ty.zL : Ty := .st 23
@[reducible] def Ty.zC : Ty := .st 24
@[reducible] def Ty.yD : Ty := .st 25
@[reducible] def Ty.zJ : Ty := .st 26
@[reducible] def Ty.zV : Ty := .st 27
@[reducible] def Ty.zS : Ty := .st 28
@[reducible] def Ty.zH : Ty := .st 29
@[reducible] def Ty.zQ : Ty := .st 30
def zba (k : IntKind) : List (AV U) → Option (Int × List (AV U))
 | .sc (.int k' n) :: l => if k = k' then some (n, l) else none
 | _ => none
def zfu : List (AV U) → Option (Bool × List (AV U))
 | .sc (.bool b) :: l => some (b, l)
 | _ => none
def zsf : List (AV U) → Option (ByteArray × List (AV U))
 | .sc (.string s) :: l => some (s, l)
 | _ => none
def z94 : List (AV U) → Option (Unit × List (AV U))
 | .sc (.slice none 0 0) :: l => some ((), l)
 | _ => none
def rSl (t : Ty) : List (AV U) → Option (List (den t) × List (AV U))
 | .lst t' xs :: l => (U.eqTy t' t).map fun e => (zzr e xs, l)
 | .sc (.slice none 0 0) :: l => some ([], l)
 | _ => none
def zog (l : List (AV U)) : Option (zP × List (AV U)) := (zba .i64 l).bind fun x0 => (zba .i64 x0.2).bind fun x1 => some (⟨x0.1, x1.1⟩, x1.2)
def zko (l : List (AV U)) : Option (zZ × List (AV U)) := (zba .i64 l).bind fun x0 => (zba .i64 x0.2).bind fun x1 => (zfu x1.2).bind fun x2 => (zba .u8 x2.2).bind fun x3 => some (⟨x0.1, x1.1, x2.1, x3.1⟩, x3.2)
def zhu (l : List (AV U)) : Option (zW × List (AV U)) := (zsf l).bind fun x0 => (zba .u64 x0.2).bind fun x1 => some (⟨x0.1, x1.1⟩, x1.2)
def zx4 (l : List (AV U)) : Option (zI × List (AV U)) := (zba .i64 l).bind fun x0 => (zfu x0.2).bind fun x1 => (zfu x1.2).bind fun x2 => some (⟨x0.1, x1.1, x2.1⟩, x2.2)
def zm1 (l : List (AV U)) : Option (Storage × List (AV U)) := (zsf l).bind fun x0 => (rSl Ty.bool x0.2).bind fun x1 => some (⟨x0.1, x1.1⟩, x1.2)
def zq4 (l : List (AV U)) : Option (zO × List (AV U)) := (zfu l).bind fun x0 => (zba .i64 x0.2).bind fun x1 => (zba .i64 x1.2).bind fun x2 => some (⟨x0.1, x1.1, x2.1⟩, x2.2)
def zlr (l : List (AV U)) : Option (DataType × List (AV U)) := (zba .i64 l).bind fun x0 => (zba .i64 x0.2).bind fun x1 => (zba .i64 x1.2).bind fun x2 => some (⟨x0.1, x1.1, x2.1⟩, x2.2)
def zwf (l : List (AV U)) : Option (Number × List (AV U)) := (zba .i64 l).bind fun x0 => (zba .i64 x0.2).bind fun x1 => some (⟨x0.1, x1.1⟩, x1.2)
def zoj (l : List (AV U)) : Option (zB × List (AV U)) := (zba .i64 l).bind fun x0 => (zba .i64 x0.2).bind fun x1 => (zba .i64 x1.2).bind fun x2 => (zba .i64 x2.2).bind fun x3 => (zba .i64 x3.2).bind fun x4 => (zq4 x4.2).bind fun x5 => (zq4 x5.2).bind fun x6 => (zlr x6.2).bind fun x7 => (zlr x7.2).bind fun x8 => (zfu x8.2).bind fun x9 => (zfu x9.2).bind fun x10 => (zwf x10.2).bind fun x11 => (zsf x11.2).bind fun x12 => (zsf x12.2).bind fun x13 => (zba .i64 x13.2).bind fun x14 => (zba .i64 x14.2).bind fun x15 => (zba .i64 x15.2).bind fun x16 => (zba .i64 x16.2).bind fun x17 => some (⟨x0.1, x1.1, x2.1, x3.1, x4.1, x5.1, x6.1, x7.1, x8.1, x9.1, x10.1, x11.1, x12.1, x13.1, x14.1, x15.1, x16.1, x17.1⟩, x17.2)
def zz5 (l : List (AV U)) : Option (zT × List (AV U)) := (zba .i64 l).bind fun x0 => (zba .i64 x0.2).bind fun x1 => (zba .i64 x1.2).bind fun x2 => (zba .i64 x2.2).bind fun x3 => some (⟨x0.1, x1.1, x2.1, x3.1⟩, x3.2)
def zwg (l : List (AV U)) : Option (zF × List (AV U)) := (zm1 l).bind fun x0 => (rSl Ty.zB x0.2).bind fun x1 => (rSl Ty.zT x1.2).bind fun x2 => some (⟨x0.1, x1.1, x2.1⟩, x2.2)
def zve (l : List (AV U)) : Option (zR × List (AV U)) := (rSl Ty.str l).bind fun x0 => (zba .i64 x0.2).bind fun x1 => (zba .i64 x1.2).bind fun x2 => (zba .i64 x2.2).bind fun x3 => (zba .i64 x3.2).bind fun x4 => (zm1 x4.2).bind fun x5 => some (⟨x0.1, x1.1, x2.1, x3.1, x4.1, x5.1⟩, x5.2)
def zy5 (l : List (AV U)) : Option (Value × List (AV U)) := (zba .i64 l).bind fun x0 => (zsf x0.2).bind fun x1 => some (⟨x0.1, x1.1⟩, x1.2)
def zto (l : List (AV U)) : Option (yC × List (AV U)) := (zsf l).bind fun x0 => (zba .i64 x0.2).bind fun x1 => (zlr x1.2).bind fun x2 => (zy5 x2.2).bind fun x3 => (zsf x3.2).bind fun x4 => (zba .i64 x4.2).bind fun x5 => (zba .i64 x5.2).bind fun x6 => some (⟨x0.1, x1.1, x2.1, x3.1, x4.1, x5.1, x6.1⟩, x6.2)
def zoi (l : List (AV U)) : Option (zX × List (AV U)) := (zba .i64 l).bind fun x0 => (rSl (Ty.int .i64) x0.2).bind fun x1 => some (⟨x0.1, x1.1⟩, x1.2)
def ztp (l : List (AV U)) : Option (yB × List (AV U)) := (zba .i64 l).bind fun x0 => (zba .i64 x0.2).bind fun x1 => (zba .i64 x1.2).bind fun x2 => (zba .i64 x2.2).bind fun x3 => some (⟨x0.1, x1.1, x2.1, x3.1⟩, x3.2)
def zqh (l : List (AV U)) : Option (yE × List (AV U)) := (rSl Ty.yC l).bind fun x0 => (rSl Ty.zX x0.2).bind fun x1 => (rSl Ty.yB x1.2).bind fun x2 => some (⟨x0.1, x1.1, x2.1⟩, x2.2)
def zvd (l : List (AV U)) : Option (yG × List (AV U)) := (rSl Ty.str l).bind fun x0 => (zba .i64 x0.2).bind fun x1 => (zba .i64 x1.2).bind fun x2 => (zba .i64 x2.2).bind fun x3 => some (⟨x0.1, x1.1, x2.1, x3.1⟩, x3.2)
def ztq (l : List (AV U)) : Option (zA × List (AV U)) := (rSl Ty.Number l).bind fun x0 => (zba .i64 x0.2).bind fun x1 => (zm1 x1.2).bind fun x2 => (zba .i64 x2.2).bind fun x3 => (rSl (Ty.int .i64) x3.2).bind fun x4 => (rSl Ty.str x4.2).bind fun x5 => (zba .i64 x5.2).bind fun x6 => (zba .i64 x6.2).bind fun x7 => (zba .i64 x7.2).bind fun x8 => (zba .i64 x8.2).bind fun x9 => some (⟨x0.1, x1.1, x2.1, x3.1, x4.1, x5.1, x6.1, x7.1, x8.1, x9.1⟩, x9.2)
def ztn (l : List (AV U)) : Option (yA × List (AV U)) := (zm1 l).bind fun x0 => (zba .i64 x0.2).bind fun x1 => (rSl (Ty.int .i64) x1.2).bind fun x2 => (rSl Ty.str x2.2).bind fun x3 => (zba .i64 x3.2).bind fun x4 => (zba .i64 x4.2).bind fun x5 => (zba .i64 x5.2).bind fun x6 => some (⟨x0.1, x1.1, x2.1, x3.1, x4.1, x5.1, x6.1⟩, x6.2)
def zx3 (l : List (AV U)) : Option (yI × List (AV U)) := (zba .i64 l).bind fun x0 => (zba .i64 x0.2).bind fun x1 => some (⟨x0.1, x1.1⟩, x1.2)
def ztr (l : List (AV U)) : Option (Address × List (AV U)) := (zba .i64 l).bind fun x0 => (zba .i64 x0.2).bind fun x1 => some (⟨x0.1, x1.1⟩, x1.2)
def zx2 (l : List (AV U)) : Option (Pointer × List (AV U)) := (zba .i64 l).bind fun x0 => (ztr x0.2).bind fun x1 => (zba .i64 x1.2).bind fun x2 => some (⟨x0.1, x1.1, x2.1⟩, x2.2)
def zp4 (l : List (AV U)) : Option (zL × List (AV U)) := (zfu l).bind fun x0 => (zfu x0.2).bind fun x1 => (zfu x1.2).bind fun x2 => (zfu x2.2).bind fun x3 => (zfu x3.2).bind fun x4 => (zfu x4.2).bind fun x5 => (zfu x5.2).bind fun x6 => (zfu x6.2).bind fun x7 => (zfu x7.2).bind fun x8 => (zfu x8.2).bind fun x9 => (zfu x9.2).bind fun x10 => (zfu x10.2).bind fun x11 => (zfu x11.2).bind fun x12 => (zfu x12.2).bind fun x13 => (zba .i64 x13.2).bind fun x14 => (zba .i64 x14.2).bind fun x15 => some (⟨x0.1, x1.1, x2.1, x3.1, x4.1, x5.1, x6.1, x7.1, x8.1, x9.1, x10.1, x11.1, x12.1, x13.1, x14.1, x15.1⟩, x15.2)
def zmc (l : List (AV U)) : Option (zC × List (AV U)) := (ztq l).bind fun x0 => (zwg x0.2).bind fun x1 => (zba .i64 x1.2).bind fun x2 => some (⟨x0.1, x1.1, x2.1⟩, x2.2)
def zlo (l : List (AV U)) : Option (yD × List (AV U)) := (zqh l).bind fun x0 => (ztn x0.2).bind fun x1 => (rSl (Ty.int .i64) x1.2).bind fun x2 => (zba .i64 x2.2).bind fun x3 => some (⟨x0.1, x1.1, x2.1, x3.1⟩, x3.2)
def zo5 (l : List (AV U)) : Option (zJ × List (AV U)) := (zfu l).bind fun x0 => (rSl (Ty.int .i64) x0.2).bind fun x1 => some (⟨x0.1, x1.1⟩, x1.2)
def zod (l : List (AV U)) : Option (zV × List (AV U)) := (zba .i64 l).bind fun x0 => (zlr x0.2).bind fun x1 => (zfu x1.2).bind fun x2 => some (⟨x0.1, x1.1, x2.1⟩, x2.2)
def znq (l : List (AV U)) : Option (zS × List (AV U)) := (zo5 l).bind fun x0 => (rSl (Ty.int .i64) x0.2).bind fun x1 => some (⟨x0.1, x1.1⟩, x1.2)
def zsr (l : List (AV U)) : Option (zH × List (AV U)) := (zba .u64 l).bind fun x0 => (zba .u64 x0.2).bind fun x1 => (zba .u64 x1.2).bind fun x2 => (zba .u64 x2.2).bind fun x3 => some (⟨x0.1, x1.1, x2.1, x3.1⟩, x3.2)
def zmb (l : List (AV U)) : Option (zQ × List (AV U)) := (zfu l).bind fun x0 => (zsr x0.2).bind fun x1 => (zsr x1.2).bind fun x2 => some (⟨x0.1, x1.1, x2.1⟩, x2.2)
def zsz (x : zP) : List (AV U) := [.sc (.int .i64 x.fields), .sc (.int .i64 x.types)]
def zn2 (x : zZ) : List (AV U) := [.sc (.int .i64 x.x), .sc (.int .i64 x.y), .sc (.bool x.signed), .sc (.int .u8 x.code)]
def zkm (x : zW) : List (AV U) := [.sc (.string x.msg), .sc (.int .u64 x.addr)]
def z32 (x : zI) : List (AV U) := [.sc (.int .i64 x.Registers), .sc (.bool x.yH), .sc (.bool x.yF)]
def z3w (x : Storage) : List (AV U) := [.sc (.string x.Bytes), .lst Ty.bool x.Tags]
def z31 (x : zO) : List (AV U) := [.sc (.bool x.Based), .sc (.int .i64 x.Pointer), .sc (.int .i64 x.Offset)]
def z08 (x : DataType) : List (AV U) := [.sc (.int .i64 x.Kind), .sc (.int .i64 x.Length), .sc (.int .i64 x.Scale)]
def z5m (x : Number) : List (AV U) := [.sc (.int .i64 x.N), .sc (.int .i64 x.Scale)]
def zix (x : zB) : List (AV U) := [.sc (.int .i64 x.Op), .sc (.int .i64 x.R), .sc (.int .i64 x.A), .sc (.int .i64 x.B), .sc (.int .i64 x.zK), .sc (.bool x.Place.Based), .sc (.int .i64 x.Place.Pointer), .sc (.int .i64 x.Place.Offset), .sc (.bool x.From.Based), .sc (.int .i64 x.From.Pointer), .sc (.int .i64 x.From.Offset), .sc (.int .i64 x.zG.Kind), .sc (.int .i64 x.zG.Length), .sc (.int .i64 x.zG.Scale), .sc (.int .i64 x.Second.Kind), .sc (.int .i64 x.Second.Length), .sc (.int .i64 x.Second.Scale), .sc (.bool x.Half), .sc (.bool x.zM), .sc (.int .i64 x.Number.N), .sc (.int .i64 x.Number.Scale), .sc (.string x.Text), .sc (.string x.Other), .sc (.int .i64 x.Mask), .sc (.int .i64 x.Target), .sc (.int .i64 x.Pointer), .sc (.int .i64 x.Source)]
def z5n (x : zT) : List (AV U) := [.sc (.int .i64 x.From), .sc (.int .i64 x.To), .sc (.int .i64 x.Exception), .sc (.int .i64 x.Handler)]
def zk6 (x : zF) : List (AV U) := [.sc (.string x.Storage.Bytes), .lst Ty.bool x.Storage.Tags, .lst Ty.zB x.zD, .lst Ty.zT x.zN]
def z07 (x : zR) : List (AV U) := [.lst Ty.str x.Lines, .sc (.int .i64 x.Status), .sc (.int .i64 x.Exception), .sc (.int .i64 x.Marks), .sc (.int .i64 x.Steps), .sc (.string x.Storage.Bytes), .lst Ty.bool x.Storage.Tags]
def z81 (x : Value) : List (AV U) := [.sc (.int .i64 x.N), .sc (.string x.S)]
def zzl (x : yC) : List (AV U) := [.sc (.string x.Name), .sc (.int .i64 x.Kind), .sc (.int .i64 x.zG.Kind), .sc (.int .i64 x.zG.Length), .sc (.int .i64 x.zG.Scale), .sc (.int .i64 x.Value.N), .sc (.string x.Value.S), .sc (.string x.Base), .sc (.int .i64 x.Offset), .sc (.int .i64 x.Target)]
def zs1 (x : zX) : List (AV U) := [.sc (.int .i64 x.Op), .lst (Ty.int .i64) x.Args]
def zzm (x : yB) : List (AV U) := [.sc (.int .i64 x.From), .sc (.int .i64 x.To), .sc (.int .i64 x.Exception), .sc (.int .i64 x.Handler)]
def zzk (x : yE) : List (AV U) := [.lst Ty.yC x.yK, .lst Ty.zX x.zD, .lst Ty.yB x.yL]
def z06 (x : yG) : List (AV U) := [.lst Ty.str x.Lines, .sc (.int .i64 x.Status), .sc (.int .i64 x.Exception), .sc (.int .i64 x.Steps)]
def z30 (x : zA) : List (AV U) := [.lst Ty.Number x.Registers, .sc (.int .i64 x.Condition), .sc (.string x.Storage.Bytes), .lst Ty.bool x.Storage.Tags, .sc (.int .i64 x.At), .lst (Ty.int .i64) x.Stack, .lst Ty.str x.Lines, .sc (.int .i64 x.Status), .sc (.int .i64 x.Exception), .sc (.int .i64 x.Marks), .sc (.int .i64 x.Steps)]
def z3y (x : yA) : List (AV U) := [.sc (.string x.Storage.Bytes), .lst Ty.bool x.Storage.Tags, .sc (.int .i64 x.At), .lst (Ty.int .i64) x.Stack, .lst Ty.str x.Lines, .sc (.int .i64 x.Status), .sc (.int .i64 x.Exception), .sc (.int .i64 x.Steps)]
def z3z (x : yI) : List (AV U) := [.sc (.int .i64 x.Part), .sc (.int .i64 x.Index)]
def z33 (x : Address) : List (AV U) := [.sc (.int .i64 x.zY), .sc (.int .i64 x.Offset)]
def z3x (x : Pointer) : List (AV U) := [.sc (.int .i64 x.Kind), .sc (.int .i64 x.Address.zY), .sc (.int .i64 x.Address.Offset), .sc (.int .i64 x.Authority)]
def zul (x : zL) : List (AV U) := [.sc (.bool x.R), .sc (.bool x.A), .sc (.bool x.B), .sc (.bool x.Place), .sc (.bool x.From), .sc (.bool x.Half), .sc (.bool x.Number), .sc (.bool x.zK), .sc (.bool x.Mask), .sc (.bool x.Target), .sc (.bool x.Text), .sc (.bool x.Other), .sc (.bool x.Pointer), .sc (.bool x.Source), .sc (.int .i64 x.zG), .sc (.int .i64 x.Second)]
def zp9 (x : zC) : List (AV U) := [.lst Ty.Number x.zA.Registers, .sc (.int .i64 x.zA.Condition), .sc (.string x.zA.Storage.Bytes), .lst Ty.bool x.zA.Storage.Tags, .sc (.int .i64 x.zA.At), .lst (Ty.int .i64) x.zA.Stack, .lst Ty.str x.zA.Lines, .sc (.int .i64 x.zA.Status), .sc (.int .i64 x.zA.Exception), .sc (.int .i64 x.zA.Marks), .sc (.int .i64 x.zA.Steps), .sc (.string x.code.Storage.Bytes), .lst Ty.bool x.code.Storage.Tags, .lst Ty.zB x.code.zD, .lst Ty.zT x.code.zN, .sc (.int .i64 x.raised)]
def zpz (x : yD) : List (AV U) := [.lst Ty.yC x.yE.yK, .lst Ty.zX x.yE.zD, .lst Ty.yB x.yE.yL, .sc (.string x.yA.Storage.Bytes), .lst Ty.bool x.yA.Storage.Tags, .sc (.int .i64 x.yA.At), .lst (Ty.int .i64) x.yA.Stack, .lst Ty.str x.yA.Lines, .sc (.int .i64 x.yA.Status), .sc (.int .i64 x.yA.Exception), .sc (.int .i64 x.yA.Steps), .lst (Ty.int .i64) x.layout, .sc (.int .i64 x.raised)]
def zxc (x : zJ) : List (AV U) := [.sc (.bool x.Below), .lst (Ty.int .i64) x.zU]
def zsy (x : zV) : List (AV U) := [.sc (.int .i64 x.Op), .sc (.int .i64 x.zG.Kind), .sc (.int .i64 x.zG.Length), .sc (.int .i64 x.zG.Scale), .sc (.bool x.Half)]
def zry (x : zS) : List (AV U) := [.sc (.bool x.Top.Below), .lst (Ty.int .i64) x.Top.zU, .lst (Ty.int .i64) x.yJ]
def z5o (x : zH) : List (AV U) := [.sc (.int .u64 x.e0), .sc (.int .u64 x.e1), .sc (.int .u64 x.e2), .sc (.int .u64 x.e3)]
def zp8 (x : zQ) : List (AV U) := [.sc (.bool x.below), .sc (.int .u64 x.amount.e0), .sc (.int .u64 x.amount.e1), .sc (.int .u64 x.amount.e2), .sc (.int .u64 x.amount.e3), .sc (.int .u64 x.division.e0), .sc (.int .u64 x.division.e1), .sc (.int .u64 x.division.e2), .sc (.int .u64 x.division.e3)]
def zahr : (n : Nat) → z56 n → List (AV U)
 | 0, x => zsz x
 | 1, x => zn2 x
 | 2, x => zkm x
 | 3, x => z32 x
 | 4, x => z3w x
 | 5, x => z31 x
 | 6, x => z08 x
 | 7, x => z5m x
 | 8, x => zix x
 | 9, x => z5n x
 | 10, x => zk6 x
 | 11, x => z07 x
 | 12, x => z81 x
 | 13, x => zzl x
 | 14, x => zs1 x
 | 15, x => zzm x
 | 16, x => zzk x
 | 17, x => z06 x
 | 18, x => z30 x
 | 19, x => z3y x
 | 20, x => z3z x
 | 21, x => z33 x
 | 22, x => z3x x
 | 23, x => zul x
 | 24, x => zp9 x
 | 25, x => zpz x
 | 26, x => zxc x
 | 27, x => zsy x
 | 28, x => zry x
 | 29, x => z5o x
 | 30, x => zp8 x
 | _ + 31, _ => [.sc (.bool true)]
def rdSt : (n : Nat) → List (AV U) → Option (z56 n × List (AV U))
 | 0, l => zog l
 | 1, l => zko l
 | 2, l => zhu l
 | 3, l => zx4 l
 | 4, l => zm1 l
 | 5, l => zq4 l
 | 6, l => zlr l
 | 7, l => zwf l
 | 8, l => zoj l
 | 9, l => zz5 l
 | 10, l => zwg l
 | 11, l => zve l
 | 12, l => zy5 l
 | 13, l => zto l
 | 14, l => zoi l
 | 15, l => ztp l
 | 16, l => zqh l
 | 17, l => zvd l
 | 18, l => ztq l
 | 19, l => ztn l
 | 20, l => zx3 l
 | 21, l => ztr l
 | 22, l => zx2 l
 | 23, l => zp4 l
 | 24, l => zmc l
 | 25, l => zlo l
 | 26, l => zo5 l
 | 27, l => zod l
 | 28, l => znq l
 | 29, l => zsr l
 | 30, l => zmb l
 | _ + 31, _ => none
def enc : (t : Ty) → den t → List (AV U)
 | .int k, n => [.sc (.int k n)]
 | .bool, b => [.sc (.bool b)]
 | .str, s => [.sc (.string s)]
 | .nil, _ => [.sc (.slice none 0 0)]
 | .sl t, xs => [.lst t xs]
 | .st n, x => zahr n x
def rd : (t : Ty) → List (AV U) → Option (den t × List (AV U))
 | .int k, l => zba k l
 | .bool, l => zfu l
 | .str, l => zsf l
 | .nil, l => z94 l
 | .sl t, l => rSl t l
 | .st n, l => rdSt n l
def reify (t : Ty) (l : List (AV U)) : Option (den t) := (rd t l).bind fun r => match r.2 with
 | [] => some r.1
 | _ => none
def szSt : Nat → Nat
 | 0 => 2
 | 1 => 4
 | 2 => 2
 | 3 => 3
 | 4 => 2
 | 5 => 3
 | 6 => 3
 | 7 => 2
 | 8 => 27
 | 9 => 4
 | 10 => 4
 | 11 => 7
 | 12 => 2
 | 13 => 10
 | 14 => 2
 | 15 => 4
 | 16 => 3
 | 17 => 4
 | 18 => 11
 | 19 => 8
 | 20 => 2
 | 21 => 2
 | 22 => 4
 | 23 => 16
 | 24 => 16
 | 25 => 13
 | 26 => 2
 | 27 => 5
 | 28 => 3
 | 29 => 4
 | 30 => 9
 | _ + 31 => 1
def zaes : Nat → Bool
 | 0 => true
 | 1 => true
 | 2 => true
 | 3 => true
 | 4 => false
 | 5 => true
 | 6 => true
 | 7 => true
 | 8 => true
 | 9 => true
 | 10 => false
 | 11 => false
 | 12 => true
 | 13 => true
 | 14 => false
 | 15 => true
 | 16 => false
 | 17 => false
 | 18 => false
 | 19 => false
 | 20 => true
 | 21 => true
 | 22 => true
 | 23 => true
 | 24 => false
 | 25 => false
 | 26 => false
 | 27 => true
 | 28 => false
 | 29 => true
 | 30 => true
 | _ + 31 => true
def szT : Ty → Nat
 | .st n => szSt n
 | _ => 1
def aggT : Ty → Bool
 | .st _ => true
 | _ => false
def zabc : Ty → Bool
 | .sl _ => false
 | .st n => zaes n
 | _ => true
def zaa8 : List (Nat × Ty) := [(2, (Ty.int .i64)), (3, (Ty.int .i64)), (4, Ty.bool), (5, (Ty.int .u8)), (6, (Ty.int .u8)), (8, Ty.zZ), (9, Ty.str), (10, Ty.str), (11, Ty.str), (12, (Ty.int .u64)), (14, Ty.zW), (21, (Ty.int .i32)), (23, Ty.zI), (24, (Ty.sl Ty.bool)), (26, Ty.Storage), (27, (Ty.sl Ty.zB)), (28, (Ty.sl Ty.zT)), (30, Ty.zF), (33, (Ty.int .i64)), (42, (Ty.sl Ty.str)), (44, Ty.zR), (54, (Ty.sl Ty.yC)), (55, (Ty.sl Ty.zX)), (56, (Ty.sl Ty.yB)), (58, Ty.yE), (61, Ty.yG), (68, (Ty.sl Ty.Number)), (69, (Ty.sl (Ty.int .i64))), (71, Ty.zA), (84, Ty.Number), (89, Ty.zO), (91, Ty.DataType), (93, Ty.zB), (101, Ty.zT), (117, Ty.Value), (119, Ty.yC), (121, Ty.zX), (123, Ty.yA), (128, Ty.yI), (142, Ty.Address), (144, Ty.Pointer), (154, (Ty.sl (Ty.int .i64))), (159, Ty.zP), (164, Ty.zL), (173, Ty.zC), (186, Ty.yB), (203, (Ty.sl (Ty.int .u8))), (224, Ty.yD), (248, Ty.zJ), (262, Ty.zV), (263, (Ty.int .u64)), (312, Ty.zS), (321, (Ty.int .u64)), (322, Ty.zH), (323, Ty.zH), (325, Ty.zQ), (348, (Ty.int .i8)), (374, (Ty.int .u32)), (383, (Ty.sl (Ty.sl (Ty.int .u8)))), (405, (Ty.int .u8)), (406, (Ty.int .u8)), (408, (Ty.int .i32)), (409, (Ty.int .i32))]
def En : Enc U := { sz := szT, agg := aggT, flat := zabc, enc := enc, reify := reify, ofGo := pick zaa8, sl := Ty.sl, toSl := fun _ xs => xs, ofSl := fun _ xs => xs, u8 := .int .u8, ofInts := fun l => l, toInts := fun l => l }
def z6w : List zP := [⟨41, 1⟩, ⟨169, 1⟩, ⟨257, 0⟩, ⟨3, 0⟩, ⟨32807, 1⟩, ⟨6, 0⟩, ⟨6144, 0⟩, ⟨6150, 0⟩, ⟨4096, 0⟩, ⟨120, 2⟩, ⟨552, 2⟩, ⟨120, 2⟩, ⟨552, 2⟩, ⟨1536, 0⟩, ⟨8232, 3⟩, ⟨24576, 0⟩, ⟨8193, 0⟩, ⟨8192, 0⟩, ⟨4096, 0⟩, ⟨0, 0⟩, ⟨1, 0⟩, ⟨1, 0⟩, ⟨1, 0⟩, ⟨40, 2⟩, ⟨512, 0⟩, ⟨0, 0⟩, ⟨0, 0⟩]
def zaba : List Int := [1, 10, 100, 1000, 10000, 100000, 1000000, 10000000, 100000000, 1000000000, 10000000000, 100000000000, 1000000000000, 10000000000000, 100000000000000, 1000000000000000, 10000000000000000, 100000000000000000, 1000000000000000000, 10000000000000000000]
def zag8 : List Int := [0, 1, 28, 2, 29, 14, 24, 3, 30, 22, 20, 15, 25, 17, 4, 8, 31, 27, 13, 23, 21, 19, 16, 7, 26, 12, 18, 6, 11, 5, 10, 9]
def zag7 : List Int := [0, 1, 56, 2, 57, 49, 28, 3, 61, 58, 42, 50, 38, 29, 17, 4, 62, 47, 59, 36, 45, 43, 51, 22, 53, 39, 33, 30, 24, 18, 12, 5, 63, 55, 48, 27, 60, 41, 37, 16, 46, 35, 44, 21, 52, 32, 23, 11, 54, 26, 40, 15, 34, 20, 31, 10, 25, 14, 19, 9, 13, 8, 7, 6]
def globs : List (Nat × AV U) := [(0, .rarr Ty.zP z6w), (3, .rarr (Ty.int .u64) zaba), (4, .rarr (Ty.int .u8) zag8), (5, .rarr (Ty.int .u8) zag7)]
def zsj (O : List (Nat × Ct U)) (X : List (Nat × Nat)) (J : List (Nat × Amx.Spec U × List Ty)) (pre : List (Nat × List Nat)) (lits ro pk bj : List Nat) : Ctx U :=
 { P := Proofs.Tryz.prog, En := En, G := pick globs, O := pick O, X := pick X, joins := pick J, pre := fun r => (pick pre r).getD [], lits := lits, ro := ro, pk := pk, bj := bj }
theorem zaa (k : IntKind) : Sp (U := U) (zba k) (fun n : Int => [.sc (.int k n)]) := fun l x r h => by
 unfold zba at h
 split at h
 · split at h
   · rename_i e; cases h; subst e; exact ⟨[_], rfl, F2.refl_ref _⟩
   · cases h
 · cases h
theorem zdy : Sp (U := U) zfu (fun b : Bool => [.sc (.bool b)]) := fun l x r h => by
 unfold zfu at h
 split at h
 · cases h; exact ⟨[_], rfl, F2.refl_ref _⟩
 · cases h
theorem zpg : Sp (U := U) zsf (fun s : ByteArray => [.sc (.string s)]) := fun l x r h => by
 unfold zsf at h
 split at h
 · cases h; exact ⟨[_], rfl, F2.refl_ref _⟩
 · cases h
theorem zadq : Sp (U := U) z94 (fun _ : Unit => [.sc (.slice none 0 0)]) := fun l x r h => by
 unfold z94 at h
 split at h
 · cases h; exact ⟨[_], rfl, F2.refl_ref _⟩
 · cases h
theorem zjb (t : Ty) : Sp (U := U) (rSl t) (fun xs : List (den t) => [.lst t xs]) := fun l x r h => by
 unfold rSl at h
 split at h
 · rw [Option.map_eq_some_iff] at h; obtain ⟨⟨e⟩, _, h2⟩ := h; cases e; cases h2; exact ⟨[_], rfl, F2.refl_ref _⟩
 · cases h; exact ⟨[_], rfl, .cons (.inr ⟨rfl, _, rfl⟩) .nil⟩
 · cases h
theorem zxm : Sp (U := U) zog zsz := fun l x r h => by
 unfold zog at h
 obtain ⟨x0, r0, p0, e0, f0, h⟩ := (zaa .i64).step h
 obtain ⟨x1, r1, p1, (e1 : r0 = p1 ++ r1), f1, h⟩ := (zaa .i64).step h
 cases h
 exact ⟨(p0 ++ p1), by rw [e0, e1]; simp only [List.append_assoc], (f0.append f1)⟩
theorem zr9 : Sp (U := U) zko zn2 := fun l x r h => by
 unfold zko at h
 obtain ⟨x0, r0, p0, e0, f0, h⟩ := (zaa .i64).step h
 obtain ⟨x1, r1, p1, (e1 : r0 = p1 ++ r1), f1, h⟩ := (zaa .i64).step h
 obtain ⟨x2, r2, p2, (e2 : r1 = p2 ++ r2), f2, h⟩ := zdy.step h
 obtain ⟨x3, r3, p3, (e3 : r2 = p3 ++ r3), f3, h⟩ := (zaa .u8).step h
 cases h
 exact ⟨(p0 ++ (p1 ++ (p2 ++ p3))), by rw [e0, e1, e2, e3]; simp only [List.append_assoc], (f0.append (f1.append (f2.append f3)))⟩
theorem zoa : Sp (U := U) zhu zkm := fun l x r h => by
 unfold zhu at h
 obtain ⟨x0, r0, p0, e0, f0, h⟩ := zpg.step h
 obtain ⟨x1, r1, p1, (e1 : r0 = p1 ++ r1), f1, h⟩ := (zaa .u64).step h
 cases h
 exact ⟨(p0 ++ p1), by rw [e0, e1]; simp only [List.append_assoc], (f0.append f1)⟩
theorem z59 : Sp (U := U) zx4 z32 := fun l x r h => by
 unfold zx4 at h
 obtain ⟨x0, r0, p0, e0, f0, h⟩ := (zaa .i64).step h
 obtain ⟨x1, r1, p1, (e1 : r0 = p1 ++ r1), f1, h⟩ := zdy.step h
 obtain ⟨x2, r2, p2, (e2 : r1 = p2 ++ r2), f2, h⟩ := zdy.step h
 cases h
 exact ⟨(p0 ++ (p1 ++ p2)), by rw [e0, e1, e2]; simp only [List.append_assoc], (f0.append (f1.append f2))⟩
theorem zno : Sp (U := U) zm1 z3w := fun l x r h => by
 unfold zm1 at h
 obtain ⟨x0, r0, p0, e0, f0, h⟩ := zpg.step h
 obtain ⟨x1, r1, p1, (e1 : r0 = p1 ++ r1), f1, h⟩ := (zjb Ty.bool).step h
 cases h
 exact ⟨(p0 ++ p1), by rw [e0, e1]; simp only [List.append_assoc], (f0.append f1)⟩
theorem ztf : Sp (U := U) zq4 z31 := fun l x r h => by
 unfold zq4 at h
 obtain ⟨x0, r0, p0, e0, f0, h⟩ := zdy.step h
 obtain ⟨x1, r1, p1, (e1 : r0 = p1 ++ r1), f1, h⟩ := (zaa .i64).step h
 obtain ⟨x2, r2, p2, (e2 : r1 = p2 ++ r2), f2, h⟩ := (zaa .i64).step h
 cases h
 exact ⟨(p0 ++ (p1 ++ p2)), by rw [e0, e1, e2]; simp only [List.append_assoc], (f0.append (f1.append f2))⟩
theorem zmf : Sp (U := U) zlr z08 := fun l x r h => by
 unfold zlr at h
 obtain ⟨x0, r0, p0, e0, f0, h⟩ := (zaa .i64).step h
 obtain ⟨x1, r1, p1, (e1 : r0 = p1 ++ r1), f1, h⟩ := (zaa .i64).step h
 obtain ⟨x2, r2, p2, (e2 : r1 = p2 ++ r2), f2, h⟩ := (zaa .i64).step h
 cases h
 exact ⟨(p0 ++ (p1 ++ p2)), by rw [e0, e1, e2]; simp only [List.append_assoc], (f0.append (f1.append f2))⟩
theorem z0p : Sp (U := U) zwf z5m := fun l x r h => by
 unfold zwf at h
 obtain ⟨x0, r0, p0, e0, f0, h⟩ := (zaa .i64).step h
 obtain ⟨x1, r1, p1, (e1 : r0 = p1 ++ r1), f1, h⟩ := (zaa .i64).step h
 cases h
 exact ⟨(p0 ++ p1), by rw [e0, e1]; simp only [List.append_assoc], (f0.append f1)⟩
theorem zxo : Sp (U := U) zoj zix := fun l x r h => by
 unfold zoj at h
 obtain ⟨x0, r0, p0, e0, f0, h⟩ := (zaa .i64).step h
 obtain ⟨x1, r1, p1, (e1 : r0 = p1 ++ r1), f1, h⟩ := (zaa .i64).step h
 obtain ⟨x2, r2, p2, (e2 : r1 = p2 ++ r2), f2, h⟩ := (zaa .i64).step h
 obtain ⟨x3, r3, p3, (e3 : r2 = p3 ++ r3), f3, h⟩ := (zaa .i64).step h
 obtain ⟨x4, r4, p4, (e4 : r3 = p4 ++ r4), f4, h⟩ := (zaa .i64).step h
 obtain ⟨x5, r5, p5, (e5 : r4 = p5 ++ r5), f5, h⟩ := ztf.step h
 obtain ⟨x6, r6, p6, (e6 : r5 = p6 ++ r6), f6, h⟩ := ztf.step h
 obtain ⟨x7, r7, p7, (e7 : r6 = p7 ++ r7), f7, h⟩ := zmf.step h
 obtain ⟨x8, r8, p8, (e8 : r7 = p8 ++ r8), f8, h⟩ := zmf.step h
 obtain ⟨x9, r9, p9, (e9 : r8 = p9 ++ r9), f9, h⟩ := zdy.step h
 obtain ⟨x10, r10, p10, (e10 : r9 = p10 ++ r10), f10, h⟩ := zdy.step h
 obtain ⟨x11, r11, p11, (e11 : r10 = p11 ++ r11), f11, h⟩ := z0p.step h
 obtain ⟨x12, r12, p12, (e12 : r11 = p12 ++ r12), f12, h⟩ := zpg.step h
 obtain ⟨x13, r13, p13, (e13 : r12 = p13 ++ r13), f13, h⟩ := zpg.step h
 obtain ⟨x14, r14, p14, (e14 : r13 = p14 ++ r14), f14, h⟩ := (zaa .i64).step h
 obtain ⟨x15, r15, p15, (e15 : r14 = p15 ++ r15), f15, h⟩ := (zaa .i64).step h
 obtain ⟨x16, r16, p16, (e16 : r15 = p16 ++ r16), f16, h⟩ := (zaa .i64).step h
 obtain ⟨x17, r17, p17, (e17 : r16 = p17 ++ r17), f17, h⟩ := (zaa .i64).step h
 cases h
 exact ⟨(p0 ++ (p1 ++ (p2 ++ (p3 ++ (p4 ++ (p5 ++ (p6 ++ (p7 ++ (p8 ++ (p9 ++ (p10 ++ (p11 ++ (p12 ++ (p13 ++ (p14 ++ (p15 ++ (p16 ++ p17))))))))))))))))), by rw [e0, e1, e2, e3, e4, e5, e6, e7, e8, e9, e10, e11, e12, e13, e14, e15, e16, e17]; simp only [List.append_assoc], (f0.append (f1.append (f2.append (f3.append (f4.append (f5.append (f6.append (f7.append (f8.append (f9.append (f10.append (f11.append (f12.append (f13.append (f14.append (f15.append (f16.append f17)))))))))))))))))⟩
theorem z7q : Sp (U := U) zz5 z5n := fun l x r h => by
 unfold zz5 at h
 obtain ⟨x0, r0, p0, e0, f0, h⟩ := (zaa .i64).step h
 obtain ⟨x1, r1, p1, (e1 : r0 = p1 ++ r1), f1, h⟩ := (zaa .i64).step h
 obtain ⟨x2, r2, p2, (e2 : r1 = p2 ++ r2), f2, h⟩ := (zaa .i64).step h
 obtain ⟨x3, r3, p3, (e3 : r2 = p3 ++ r3), f3, h⟩ := (zaa .i64).step h
 cases h
 exact ⟨(p0 ++ (p1 ++ (p2 ++ p3))), by rw [e0, e1, e2, e3]; simp only [List.append_assoc], (f0.append (f1.append (f2.append f3)))⟩
theorem z0q : Sp (U := U) zwg zk6 := fun l x r h => by
 unfold zwg at h
 obtain ⟨x0, r0, p0, e0, f0, h⟩ := zno.step h
 obtain ⟨x1, r1, p1, (e1 : r0 = p1 ++ r1), f1, h⟩ := (zjb Ty.zB).step h
 obtain ⟨x2, r2, p2, (e2 : r1 = p2 ++ r2), f2, h⟩ := (zjb Ty.zT).step h
 cases h
 exact ⟨(p0 ++ (p1 ++ p2)), by rw [e0, e1, e2]; simp only [List.append_assoc], (f0.append (f1.append f2))⟩
theorem z4o : Sp (U := U) zve z07 := fun l x r h => by
 unfold zve at h
 obtain ⟨x0, r0, p0, e0, f0, h⟩ := (zjb Ty.str).step h
 obtain ⟨x1, r1, p1, (e1 : r0 = p1 ++ r1), f1, h⟩ := (zaa .i64).step h
 obtain ⟨x2, r2, p2, (e2 : r1 = p2 ++ r2), f2, h⟩ := (zaa .i64).step h
 obtain ⟨x3, r3, p3, (e3 : r2 = p3 ++ r3), f3, h⟩ := (zaa .i64).step h
 obtain ⟨x4, r4, p4, (e4 : r3 = p4 ++ r4), f4, h⟩ := (zaa .i64).step h
 obtain ⟨x5, r5, p5, (e5 : r4 = p5 ++ r5), f5, h⟩ := zno.step h
 cases h
 exact ⟨(p0 ++ (p1 ++ (p2 ++ (p3 ++ (p4 ++ p5))))), by rw [e0, e1, e2, e3, e4, e5]; simp only [List.append_assoc], (f0.append (f1.append (f2.append (f3.append (f4.append f5)))))⟩
theorem z15 : Sp (U := U) zy5 z81 := fun l x r h => by
 unfold zy5 at h
 obtain ⟨x0, r0, p0, e0, f0, h⟩ := (zaa .i64).step h
 obtain ⟨x1, r1, p1, (e1 : r0 = p1 ++ r1), f1, h⟩ := zpg.step h
 cases h
 exact ⟨(p0 ++ p1), by rw [e0, e1]; simp only [List.append_assoc], (f0.append f1)⟩
theorem z17 : Sp (U := U) zto zzl := fun l x r h => by
 unfold zto at h
 obtain ⟨x0, r0, p0, e0, f0, h⟩ := zpg.step h
 obtain ⟨x1, r1, p1, (e1 : r0 = p1 ++ r1), f1, h⟩ := (zaa .i64).step h
 obtain ⟨x2, r2, p2, (e2 : r1 = p2 ++ r2), f2, h⟩ := zmf.step h
 obtain ⟨x3, r3, p3, (e3 : r2 = p3 ++ r3), f3, h⟩ := z15.step h
 obtain ⟨x4, r4, p4, (e4 : r3 = p4 ++ r4), f4, h⟩ := zpg.step h
 obtain ⟨x5, r5, p5, (e5 : r4 = p5 ++ r5), f5, h⟩ := (zaa .i64).step h
 obtain ⟨x6, r6, p6, (e6 : r5 = p6 ++ r6), f6, h⟩ := (zaa .i64).step h
 cases h
 exact ⟨(p0 ++ (p1 ++ (p2 ++ (p3 ++ (p4 ++ (p5 ++ p6)))))), by rw [e0, e1, e2, e3, e4, e5, e6]; simp only [List.append_assoc], (f0.append (f1.append (f2.append (f3.append (f4.append (f5.append f6))))))⟩
theorem zxn : Sp (U := U) zoi zs1 := fun l x r h => by
 unfold zoi at h
 obtain ⟨x0, r0, p0, e0, f0, h⟩ := (zaa .i64).step h
 obtain ⟨x1, r1, p1, (e1 : r0 = p1 ++ r1), f1, h⟩ := (zjb (Ty.int .i64)).step h
 cases h
 exact ⟨(p0 ++ p1), by rw [e0, e1]; simp only [List.append_assoc], (f0.append f1)⟩
theorem z18 : Sp (U := U) ztp zzm := fun l x r h => by
 unfold ztp at h
 obtain ⟨x0, r0, p0, e0, f0, h⟩ := (zaa .i64).step h
 obtain ⟨x1, r1, p1, (e1 : r0 = p1 ++ r1), f1, h⟩ := (zaa .i64).step h
 obtain ⟨x2, r2, p2, (e2 : r1 = p2 ++ r2), f2, h⟩ := (zaa .i64).step h
 obtain ⟨x3, r3, p3, (e3 : r2 = p3 ++ r3), f3, h⟩ := (zaa .i64).step h
 cases h
 exact ⟨(p0 ++ (p1 ++ (p2 ++ p3))), by rw [e0, e1, e2, e3]; simp only [List.append_assoc], (f0.append (f1.append (f2.append f3)))⟩
theorem zuw : Sp (U := U) zqh zzk := fun l x r h => by
 unfold zqh at h
 obtain ⟨x0, r0, p0, e0, f0, h⟩ := (zjb Ty.yC).step h
 obtain ⟨x1, r1, p1, (e1 : r0 = p1 ++ r1), f1, h⟩ := (zjb Ty.zX).step h
 obtain ⟨x2, r2, p2, (e2 : r1 = p2 ++ r2), f2, h⟩ := (zjb Ty.yB).step h
 cases h
 exact ⟨(p0 ++ (p1 ++ p2)), by rw [e0, e1, e2]; simp only [List.append_assoc], (f0.append (f1.append f2))⟩
theorem z4n : Sp (U := U) zvd z06 := fun l x r h => by
 unfold zvd at h
 obtain ⟨x0, r0, p0, e0, f0, h⟩ := (zjb Ty.str).step h
 obtain ⟨x1, r1, p1, (e1 : r0 = p1 ++ r1), f1, h⟩ := (zaa .i64).step h
 obtain ⟨x2, r2, p2, (e2 : r1 = p2 ++ r2), f2, h⟩ := (zaa .i64).step h
 obtain ⟨x3, r3, p3, (e3 : r2 = p3 ++ r3), f3, h⟩ := (zaa .i64).step h
 cases h
 exact ⟨(p0 ++ (p1 ++ (p2 ++ p3))), by rw [e0, e1, e2, e3]; simp only [List.append_assoc], (f0.append (f1.append (f2.append f3)))⟩
theorem zys : Sp (U := U) ztq z30 := fun l x r h => by
 unfold ztq at h
 obtain ⟨x0, r0, p0, e0, f0, h⟩ := (zjb Ty.Number).step h
 obtain ⟨x1, r1, p1, (e1 : r0 = p1 ++ r1), f1, h⟩ := (zaa .i64).step h
 obtain ⟨x2, r2, p2, (e2 : r1 = p2 ++ r2), f2, h⟩ := zno.step h
 obtain ⟨x3, r3, p3, (e3 : r2 = p3 ++ r3), f3, h⟩ := (zaa .i64).step h
 obtain ⟨x4, r4, p4, (e4 : r3 = p4 ++ r4), f4, h⟩ := (zjb (Ty.int .i64)).step h
 obtain ⟨x5, r5, p5, (e5 : r4 = p5 ++ r5), f5, h⟩ := (zjb Ty.str).step h
 obtain ⟨x6, r6, p6, (e6 : r5 = p6 ++ r6), f6, h⟩ := (zaa .i64).step h
 obtain ⟨x7, r7, p7, (e7 : r6 = p7 ++ r7), f7, h⟩ := (zaa .i64).step h
 obtain ⟨x8, r8, p8, (e8 : r7 = p8 ++ r8), f8, h⟩ := (zaa .i64).step h
 obtain ⟨x9, r9, p9, (e9 : r8 = p9 ++ r9), f9, h⟩ := (zaa .i64).step h
 cases h
 exact ⟨(p0 ++ (p1 ++ (p2 ++ (p3 ++ (p4 ++ (p5 ++ (p6 ++ (p7 ++ (p8 ++ p9))))))))), by rw [e0, e1, e2, e3, e4, e5, e6, e7, e8, e9]; simp only [List.append_assoc], (f0.append (f1.append (f2.append (f3.append (f4.append (f5.append (f6.append (f7.append (f8.append f9)))))))))⟩
theorem zyr : Sp (U := U) ztn z3y := fun l x r h => by
 unfold ztn at h
 obtain ⟨x0, r0, p0, e0, f0, h⟩ := zno.step h
 obtain ⟨x1, r1, p1, (e1 : r0 = p1 ++ r1), f1, h⟩ := (zaa .i64).step h
 obtain ⟨x2, r2, p2, (e2 : r1 = p2 ++ r2), f2, h⟩ := (zjb (Ty.int .i64)).step h
 obtain ⟨x3, r3, p3, (e3 : r2 = p3 ++ r3), f3, h⟩ := (zjb Ty.str).step h
 obtain ⟨x4, r4, p4, (e4 : r3 = p4 ++ r4), f4, h⟩ := (zaa .i64).step h
 obtain ⟨x5, r5, p5, (e5 : r4 = p5 ++ r5), f5, h⟩ := (zaa .i64).step h
 obtain ⟨x6, r6, p6, (e6 : r5 = p6 ++ r6), f6, h⟩ := (zaa .i64).step h
 cases h
 exact ⟨(p0 ++ (p1 ++ (p2 ++ (p3 ++ (p4 ++ (p5 ++ p6)))))), by rw [e0, e1, e2, e3, e4, e5, e6]; simp only [List.append_assoc], (f0.append (f1.append (f2.append (f3.append (f4.append (f5.append f6))))))⟩
theorem z58 : Sp (U := U) zx3 z3z := fun l x r h => by
 unfold zx3 at h
 obtain ⟨x0, r0, p0, e0, f0, h⟩ := (zaa .i64).step h
 obtain ⟨x1, r1, p1, (e1 : r0 = p1 ++ r1), f1, h⟩ := (zaa .i64).step h
 cases h
 exact ⟨(p0 ++ p1), by rw [e0, e1]; simp only [List.append_assoc], (f0.append f1)⟩
theorem zyt : Sp (U := U) ztr z33 := fun l x r h => by
 unfold ztr at h
 obtain ⟨x0, r0, p0, e0, f0, h⟩ := (zaa .i64).step h
 obtain ⟨x1, r1, p1, (e1 : r0 = p1 ++ r1), f1, h⟩ := (zaa .i64).step h
 cases h
 exact ⟨(p0 ++ p1), by rw [e0, e1]; simp only [List.append_assoc], (f0.append f1)⟩
theorem z57 : Sp (U := U) zx2 z3x := fun l x r h => by
 unfold zx2 at h
 obtain ⟨x0, r0, p0, e0, f0, h⟩ := (zaa .i64).step h
 obtain ⟨x1, r1, p1, (e1 : r0 = p1 ++ r1), f1, h⟩ := zyt.step h
 obtain ⟨x2, r2, p2, (e2 : r1 = p2 ++ r2), f2, h⟩ := (zaa .i64).step h
 cases h
 exact ⟨(p0 ++ (p1 ++ p2)), by rw [e0, e1, e2]; simp only [List.append_assoc], (f0.append (f1.append f2))⟩
theorem zyq : Sp (U := U) zp4 zul := fun l x r h => by
 unfold zp4 at h
 obtain ⟨x0, r0, p0, e0, f0, h⟩ := zdy.step h
 obtain ⟨x1, r1, p1, (e1 : r0 = p1 ++ r1), f1, h⟩ := zdy.step h
 obtain ⟨x2, r2, p2, (e2 : r1 = p2 ++ r2), f2, h⟩ := zdy.step h
 obtain ⟨x3, r3, p3, (e3 : r2 = p3 ++ r3), f3, h⟩ := zdy.step h
 obtain ⟨x4, r4, p4, (e4 : r3 = p4 ++ r4), f4, h⟩ := zdy.step h
 obtain ⟨x5, r5, p5, (e5 : r4 = p5 ++ r5), f5, h⟩ := zdy.step h
 obtain ⟨x6, r6, p6, (e6 : r5 = p6 ++ r6), f6, h⟩ := zdy.step h
 obtain ⟨x7, r7, p7, (e7 : r6 = p7 ++ r7), f7, h⟩ := zdy.step h
 obtain ⟨x8, r8, p8, (e8 : r7 = p8 ++ r8), f8, h⟩ := zdy.step h
 obtain ⟨x9, r9, p9, (e9 : r8 = p9 ++ r9), f9, h⟩ := zdy.step h
 obtain ⟨x10, r10, p10, (e10 : r9 = p10 ++ r10), f10, h⟩ := zdy.step h
 obtain ⟨x11, r11, p11, (e11 : r10 = p11 ++ r11), f11, h⟩ := zdy.step h
 obtain ⟨x12, r12, p12, (e12 : r11 = p12 ++ r12), f12, h⟩ := zdy.step h
 obtain ⟨x13, r13, p13, (e13 : r12 = p13 ++ r13), f13, h⟩ := zdy.step h
 obtain ⟨x14, r14, p14, (e14 : r13 = p14 ++ r14), f14, h⟩ := (zaa .i64).step h
 obtain ⟨x15, r15, p15, (e15 : r14 = p15 ++ r15), f15, h⟩ := (zaa .i64).step h
 cases h
 exact ⟨(p0 ++ (p1 ++ (p2 ++ (p3 ++ (p4 ++ (p5 ++ (p6 ++ (p7 ++ (p8 ++ (p9 ++ (p10 ++ (p11 ++ (p12 ++ (p13 ++ (p14 ++ p15))))))))))))))), by rw [e0, e1, e2, e3, e4, e5, e6, e7, e8, e9, e10, e11, e12, e13, e14, e15]; simp only [List.append_assoc], (f0.append (f1.append (f2.append (f3.append (f4.append (f5.append (f6.append (f7.append (f8.append (f9.append (f10.append (f11.append (f12.append (f13.append (f14.append f15)))))))))))))))⟩
theorem zup : Sp (U := U) zmc zp9 := fun l x r h => by
 unfold zmc at h
 obtain ⟨x0, r0, p0, e0, f0, h⟩ := zys.step h
 obtain ⟨x1, r1, p1, (e1 : r0 = p1 ++ r1), f1, h⟩ := z0q.step h
 obtain ⟨x2, r2, p2, (e2 : r1 = p2 ++ r2), f2, h⟩ := (zaa .i64).step h
 cases h
 exact ⟨(p0 ++ (p1 ++ p2)), by rw [e0, e1, e2]; simp only [List.append_assoc], (f0.append (f1.append f2))⟩
theorem zte : Sp (U := U) zlo zpz := fun l x r h => by
 unfold zlo at h
 obtain ⟨x0, r0, p0, e0, f0, h⟩ := zuw.step h
 obtain ⟨x1, r1, p1, (e1 : r0 = p1 ++ r1), f1, h⟩ := zyr.step h
 obtain ⟨x2, r2, p2, (e2 : r1 = p2 ++ r2), f2, h⟩ := (zjb (Ty.int .i64)).step h
 obtain ⟨x3, r3, p3, (e3 : r2 = p3 ++ r3), f3, h⟩ := (zaa .i64).step h
 cases h
 exact ⟨(p0 ++ (p1 ++ (p2 ++ p3))), by rw [e0, e1, e2, e3]; simp only [List.append_assoc], (f0.append (f1.append (f2.append f3)))⟩
theorem zug : Sp (U := U) zo5 zxc := fun l x r h => by
 unfold zo5 at h
 obtain ⟨x0, r0, p0, e0, f0, h⟩ := zdy.step h
 obtain ⟨x1, r1, p1, (e1 : r0 = p1 ++ r1), f1, h⟩ := (zjb (Ty.int .i64)).step h
 cases h
 exact ⟨(p0 ++ p1), by rw [e0, e1]; simp only [List.append_assoc], (f0.append f1)⟩
theorem zxl : Sp (U := U) zod zsy := fun l x r h => by
 unfold zod at h
 obtain ⟨x0, r0, p0, e0, f0, h⟩ := (zaa .i64).step h
 obtain ⟨x1, r1, p1, (e1 : r0 = p1 ++ r1), f1, h⟩ := zmf.step h
 obtain ⟨x2, r2, p2, (e2 : r1 = p2 ++ r2), f2, h⟩ := zdy.step h
 cases h
 exact ⟨(p0 ++ (p1 ++ p2)), by rw [e0, e1, e2]; simp only [List.append_assoc], (f0.append (f1.append f2))⟩
theorem zws : Sp (U := U) znq zry := fun l x r h => by
 unfold znq at h
 obtain ⟨x0, r0, p0, e0, f0, h⟩ := zug.step h
 obtain ⟨x1, r1, p1, (e1 : r0 = p1 ++ r1), f1, h⟩ := (zjb (Ty.int .i64)).step h
 cases h
 exact ⟨(p0 ++ p1), by rw [e0, e1]; simp only [List.append_assoc], (f0.append f1)⟩
theorem zux : Sp (U := U) zsr z5o := fun l x r h => by
 unfold zsr at h
 obtain ⟨x0, r0, p0, e0, f0, h⟩ := (zaa .u64).step h
 obtain ⟨x1, r1, p1, (e1 : r0 = p1 ++ r1), f1, h⟩ := (zaa .u64).step h
 obtain ⟨x2, r2, p2, (e2 : r1 = p2 ++ r2), f2, h⟩ := (zaa .u64).step h
 obtain ⟨x3, r3, p3, (e3 : r2 = p3 ++ r3), f3, h⟩ := (zaa .u64).step h
 cases h
 exact ⟨(p0 ++ (p1 ++ (p2 ++ p3))), by rw [e0, e1, e2, e3]; simp only [List.append_assoc], (f0.append (f1.append (f2.append f3)))⟩
theorem zuo : Sp (U := U) zmb zp8 := fun l x r h => by
 unfold zmb at h
 obtain ⟨x0, r0, p0, e0, f0, h⟩ := zdy.step h
 obtain ⟨x1, r1, p1, (e1 : r0 = p1 ++ r1), f1, h⟩ := zux.step h
 obtain ⟨x2, r2, p2, (e2 : r1 = p2 ++ r2), f2, h⟩ := zux.step h
 cases h
 exact ⟨(p0 ++ (p1 ++ p2)), by rw [e0, e1, e2]; simp only [List.append_assoc], (f0.append (f1.append f2))⟩
theorem sp : ∀ t : Ty, Sp (U := U) (rd t) (enc t)
 | .int k => zaa k
 | .bool => zdy
 | .str => zpg
 | .nil => zadq
 | .sl t => zjb t
 | .st 0 => zxm
 | .st 1 => zr9
 | .st 2 => zoa
 | .st 3 => z59
 | .st 4 => zno
 | .st 5 => ztf
 | .st 6 => zmf
 | .st 7 => z0p
 | .st 8 => zxo
 | .st 9 => z7q
 | .st 10 => z0q
 | .st 11 => z4o
 | .st 12 => z15
 | .st 13 => z17
 | .st 14 => zxn
 | .st 15 => z18
 | .st 16 => zuw
 | .st 17 => z4n
 | .st 18 => zys
 | .st 19 => zyr
 | .st 20 => z58
 | .st 21 => zyt
 | .st 22 => z57
 | .st 23 => zyq
 | .st 24 => zup
 | .st 25 => zte
 | .st 26 => zug
 | .st 27 => zxl
 | .st 28 => zws
 | .st 29 => zux
 | .st 30 => zuo
 | .st (_ + 31) => fun l x r h => by cases h
theorem zaa2 : ∀ (t : Ty) (x : den t), (enc t x).length = szT t
 | .int _, _ => rfl
 | .bool, _ => rfl
 | .str, _ => rfl
 | .nil, _ => rfl
 | .sl _, _ => rfl
 | .st 0, _ => rfl
 | .st 1, _ => rfl
 | .st 2, _ => rfl
 | .st 3, _ => rfl
 | .st 4, _ => rfl
 | .st 5, _ => rfl
 | .st 6, _ => rfl
 | .st 7, _ => rfl
 | .st 8, _ => rfl
 | .st 9, _ => rfl
 | .st 10, _ => rfl
 | .st 11, _ => rfl
 | .st 12, _ => rfl
 | .st 13, _ => rfl
 | .st 14, _ => rfl
 | .st 15, _ => rfl
 | .st 16, _ => rfl
 | .st 17, _ => rfl
 | .st 18, _ => rfl
 | .st 19, _ => rfl
 | .st 20, _ => rfl
 | .st 21, _ => rfl
 | .st 22, _ => rfl
 | .st 23, _ => rfl
 | .st 24, _ => rfl
 | .st 25, _ => rfl
 | .st 26, _ => rfl
 | .st 27, _ => rfl
 | .st 28, _ => rfl
 | .st 29, _ => rfl
 | .st 30, _ => rfl
 | .st (_ + 31), _ => rfl
theorem zad3 : ∀ t : Ty, 0 < szT t
 | .int _ => Nat.one_pos
 | .bool => Nat.one_pos
 | .str => Nat.one_pos
 | .nil => Nat.one_pos
 | .sl _ => Nat.one_pos
 | .st 0 => (by decide : 0 < 2)
 | .st 1 => (by decide : 0 < 4)
 | .st 2 => (by decide : 0 < 2)
 | .st 3 => (by decide : 0 < 3)
 | .st 4 => (by decide : 0 < 2)
 | .st 5 => (by decide : 0 < 3)
 | .st 6 => (by decide : 0 < 3)
 | .st 7 => (by decide : 0 < 2)
 | .st 8 => (by decide : 0 < 27)
 | .st 9 => (by decide : 0 < 4)
 | .st 10 => (by decide : 0 < 4)
 | .st 11 => (by decide : 0 < 7)
 | .st 12 => (by decide : 0 < 2)
 | .st 13 => (by decide : 0 < 10)
 | .st 14 => (by decide : 0 < 2)
 | .st 15 => (by decide : 0 < 4)
 | .st 16 => (by decide : 0 < 3)
 | .st 17 => (by decide : 0 < 4)
 | .st 18 => (by decide : 0 < 11)
 | .st 19 => (by decide : 0 < 8)
 | .st 20 => (by decide : 0 < 2)
 | .st 21 => (by decide : 0 < 2)
 | .st 22 => (by decide : 0 < 4)
 | .st 23 => (by decide : 0 < 16)
 | .st 24 => (by decide : 0 < 16)
 | .st 25 => (by decide : 0 < 13)
 | .st 26 => (by decide : 0 < 2)
 | .st 27 => (by decide : 0 < 5)
 | .st 28 => (by decide : 0 < 3)
 | .st 29 => (by decide : 0 < 4)
 | .st 30 => (by decide : 0 < 9)
 | .st (_ + 31) => Nat.one_pos
theorem zag9 : ∀ (t : Ty) (x : den t), (enc t x).all (fzc (U := U)) = true
 | .int _, _ => rfl
 | .bool, _ => rfl
 | .str, _ => rfl
 | .nil, _ => rfl
 | .sl _, _ => rfl
 | .st 0, _ => rfl
 | .st 1, _ => rfl
 | .st 2, _ => rfl
 | .st 3, _ => rfl
 | .st 4, _ => rfl
 | .st 5, _ => rfl
 | .st 6, _ => rfl
 | .st 7, _ => rfl
 | .st 8, _ => rfl
 | .st 9, _ => rfl
 | .st 10, _ => rfl
 | .st 11, _ => rfl
 | .st 12, _ => rfl
 | .st 13, _ => rfl
 | .st 14, _ => rfl
 | .st 15, _ => rfl
 | .st 16, _ => rfl
 | .st 17, _ => rfl
 | .st 18, _ => rfl
 | .st 19, _ => rfl
 | .st 20, _ => rfl
 | .st 21, _ => rfl
 | .st 22, _ => rfl
 | .st 23, _ => rfl
 | .st 24, _ => rfl
 | .st 25, _ => rfl
 | .st 26, _ => rfl
 | .st 27, _ => rfl
 | .st 28, _ => rfl
 | .st 29, _ => rfl
 | .st 30, _ => rfl
 | .st (_ + 31), _ => rfl
theorem zacm : ∀ t : Ty, zabc t = true → ∀ x : den t, (enc t x).all (z7r (U := U)) = true
 | .int _, _, _ => rfl
 | .bool, _, _ => rfl
 | .str, _, _ => rfl
 | .nil, _, _ => rfl
 | .sl _, h, _ => by cases h
 | .st 0, _, _ => rfl
 | .st 1, _, _ => rfl
 | .st 2, _, _ => rfl
 | .st 3, _, _ => rfl
 | .st 4, h, _ => by cases h
 | .st 5, _, _ => rfl
 | .st 6, _, _ => rfl
 | .st 7, _, _ => rfl
 | .st 8, _, _ => rfl
 | .st 9, _, _ => rfl
 | .st 10, h, _ => by cases h
 | .st 11, h, _ => by cases h
 | .st 12, _, _ => rfl
 | .st 13, _, _ => rfl
 | .st 14, h, _ => by cases h
 | .st 15, _, _ => rfl
 | .st 16, h, _ => by cases h
 | .st 17, h, _ => by cases h
 | .st 18, h, _ => by cases h
 | .st 19, h, _ => by cases h
 | .st 20, _, _ => rfl
 | .st 21, _, _ => rfl
 | .st 22, _, _ => rfl
 | .st 23, _, _ => rfl
 | .st 24, h, _ => by cases h
 | .st 25, h, _ => by cases h
 | .st 26, h, _ => by cases h
 | .st 27, _, _ => rfl
 | .st 28, h, _ => by cases h
 | .st 29, _, _ => rfl
 | .st 30, _, _ => rfl
 | .st (_ + 31), _, _ => rfl
theorem zad7 : ∀ t : Ty, aggT t = false → szT t = 1
 | .int _, _ => rfl
 | .bool, _ => rfl
 | .str, _ => rfl
 | .nil, _ => rfl
 | .sl _, _ => rfl
 | .st _, h => by cases h
theorem zl6 : ELaws En where
 sz := zaa2
 pos := zad3
 fz := fun t x c hc => zaai (z5v (zag9 t x) hc)
 one := zad7
 reify := fun t cs x h => by
  have h' : reify t cs = some x := h; unfold reify at h'; rw [Option.bind_eq_some_iff] at h'; obtain ⟨⟨y, r⟩, h1, h2⟩ := h'; cases r with
  | cons => cases h2
  | nil =>
   cases h2; obtain ⟨p, e, f⟩ := sp t cs _ _ h1; rw [List.append_nil] at e; subst e; exact ⟨f.length.trans (zaa2 t _), fun j c c' g1 g2 => f.get j c c' g1 g2⟩
 flat := fun t ht x c hc => z4r (z5v (zacm t ht x) hc)
 slAgg := fun _ => rfl
 slEnc := fun _ _ => rfl
 ofTo := fun _ _ => rfl
 u8sz := rfl
 u8 := fun x => ⟨x, rfl⟩
 toInts := fun xs i x n h1 h2 => by cases h2; exact h1
 toIntsLen := fun _ => rfl
 ofInts := fun l i n h => ⟨n, h, rfl⟩
 ofIntsLen := fun _ => rfl
theorem zwo {O : List (Nat × Ct U)} {X : List (Nat × Nat)} {J : List (Nat × Amx.Spec U × List Ty)} {pre : List (Nat × List Nat)} {lits ro pk bj : List Nat} : CLaws (zsj O X J pre lits ro pk bj) :=
 zaap zl6 (l := zaa8) rfl (by kernel_rfl)
def ctv (ps : List (Md U)) (res outs : List Ty) (fr : List Nat) (ts : List Ty) (f : Fnc U ts (PT U (res ++ outs))) : Ct U := { params := ps, results := res, outs := outs, fresh := fr, fn := app U ts f }
def cvv (res ts : List Ty) (f : Fnc U ts (PT U (res ++ []))) : Ct U := ctv (ts.map .val) res [] [] ts f
def K0 : Ctx U := zsj [] [] [] [] [] [] [] []
@[reducible] def Kq : Type := Kp K0
structure Cf where
 X : List (Nat × Nat) := []
 J : List (Nat × Amx.Spec U × List Ty) := []
 pre : List (Nat × List Nat) := []
 lits : List Nat := []
 ro : List Nat := []
 pk : List Nat := []
 bj : List Nat := []
def cxo (l : List Kq) (c : Cf) : Ctx U := zsj (Osk l) c.X c.J c.pre c.lits c.ro c.pk c.bj
theorem go (l : List Kq) (c : Cf) {f : FuncId} {fn : Func} {ps : List (Md U)} {res outs : List Ty} {fr : List Nat} {ts : List Ty} {F : Fnc U ts (PT U (res ++ outs))} (L : List (Nat × Cut U (PT U ((ctv ps res outs fr ts F).results ++ (ctv ps res outs fr ts F).outs)))) (hf : Proofs.Tryz.prog.funcs[f]? = some fn) (hn : ((fn.name == "runtime.NumGoroutine") || !fn.body.isSome) = false := by kernel_rfl)
 (hok : zzj (cxo l c) (ctv ps res outs fr ts F) = fun _ => true := by kernel_rfl) (hr : (cur ts (z9u (cxo l c) fn (ctv ps res outs fr ts F) (pick L)) : Fnc U ts (PT U (res ++ outs))) = F := by kernel_rfl) (hL : Ls (cxo l c) fn (ctv ps res outs fr ts F) (pick L) L := by exact trivial) (hX : ∀ p ∈ c.X, zv7 Proofs.Tryz.prog p := by exact zdg) : zii K0 f (ctv ps res outs fr ts F) := by
 rw [Bool.or_eq_false_iff] at hn
 exact zii.ctx (C := cxo l c) (C' := K0) rfl rfl rfl (z8k (C := cxo l c) zwo (zagj (C := cxo l c) (C0 := K0) (l := l) rfl rfl rfl rfl) (zur (l := c.X) rfl hX) hf hn.1 (by simpa using hn.2) (zaef rfl hL) (fun y => congrFun hok y) (zacs hr))
theorem zaff : zv7 Proofs.Tryz.prog (331, 2) := zabg Proofs.Tryz.func331 (by kernel_rfl) (by kernel_rfl) (by kernel_rfl) (by kernel_rfl)
theorem zaay : zv7 Proofs.Tryz.prog (347, 0) := z7j Proofs.Tryz.func347 (by kernel_rfl) (by kernel_rfl) (by kernel_rfl) (by kernel_rfl)
theorem zafe : zv7 Proofs.Tryz.prog (355, 1) := z7i Proofs.Tryz.func355 (by kernel_rfl) (by kernel_rfl) (by kernel_rfl) (by kernel_rfl)
end
end Go.Proofs.YtppbpnknfigboaaGreatDoor.M
