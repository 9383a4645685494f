/- The program's types, and their cells. -/
import Derived.Test.YtppbpnknfigboaaGreatDoorA3
import Derived.Test.YtppbpnknfigboaaGreatDoorShelf
import Derived.KernelRfl
namespace Go.Proofs.YtppbpnknfigboaaGreatDoor.M
open Go Go.Amx
set_option linter.unusedVariables false
set_option maxRecDepth 100000
noncomputable section
structure zP where
 fields : Int
 types : Int
structure yA where
 x : Int
 y : Int
 signed : Bool
 code : Int
structure zW where
 msg : ByteArray
 addr : Int
structure zH where
 Registers : Int
 yC : Bool
 zY : Bool
structure Storage where
 Bytes : ByteArray
 Tags : List Bool
structure zO where
 Based : Bool
 Pointer : Int
 Offset : Int
structure DataType where
 Kind : Int
 Length : Int
 Scale : Int
structure Number where
 N : Int
 Scale : Int
structure zB where
 Op : Int
 R : Int
 A : Int
 B : Int
 zJ : Int
 Place : zO
 From : zO
 zF : DataType
 Second : DataType
 Half : Bool
 zL : Bool
 Number : Number
 Text : ByteArray
 Other : ByteArray
 Mask : Int
 Target : Int
 Pointer : Int
 Source : Int
structure zT where
 From : Int
 To : Int
 Exception : Int
 Handler : Int
structure zG where
 Storage : Storage
 zD : List zB
 zN : List zT
structure zR where
 Lines : List ByteArray
 Status : Int
 Exception : Int
 Marks : Int
 Steps : Int
 Storage : Storage
structure Value where
 N : Int
 S : ByteArray
structure yD where
 Name : ByteArray
 Kind : Int
 zF : DataType
 Value : Value
 Base : ByteArray
 Offset : Int
 Target : Int
structure zX where
 Op : Int
 Args : List Int
structure yE where
 From : Int
 To : Int
 Exception : Int
 Handler : Int
structure yG where
 yL : List yD
 zD : List zX
 yK : List yE
structure yH where
 Lines : List ByteArray
 Status : Int
 Exception : Int
 Steps : Int
structure zA where
 Registers : List Number
 Condition : Int
 Storage : Storage
 At : Int
 Stack : List Int
 Lines : List ByteArray
 Status : Int
 Exception : Int
 Marks : Int
 Steps : Int
structure yB where
 Storage : Storage
 At : Int
 Stack : List Int
 Lines : List ByteArray
 Status : Int
 Exception : Int
 Steps : Int
structure yI where
 Part : Int
 Index : Int
structure Address where
 zZ : Int
 Offset : Int
structure Pointer where
 Kind : Int
 Address : Address
 Authority : Int
structure zM where
 R : Bool
 A : Bool
 B : Bool
 Place : Bool
 From : Bool
 Half : Bool
 Number : Bool
 zJ : Bool
 Mask : Bool
 Target : Bool
 Text : Bool
 Other : Bool
 Pointer : Bool
 Source : Bool
 zF : Int
 Second : Int
structure zC where
 zA : zA
 code : zG
 raised : Int
structure yF where
 yG : yG
 yB : yB
 layout : List Int
 raised : Int
structure zK where
 Below : Bool
 zU : List Int
structure zV where
 Op : Int
 zF : DataType
 Half : Bool
structure zS where
 Top : zK
 yJ : List Int
structure zI where
 e0 : Int
 e1 : Int
 e2 : Int
 e3 : Int
structure zQ where
 below : Bool
 amount : zI
 division : zI
inductive Ty where
 | int (k : IntKind)
 | bool
 | str
 | nil
 | sl (t : Ty)
 | st (n : Nat)
@[reducible] def z6d : Nat → Type
 | 0 => zP
 | 1 => yA
 | 2 => zW
 | 3 => zH
 | 4 => Storage
 | 5 => zO
 | 6 => DataType
 | 7 => Number
 | 8 => zB
 | 9 => zT
 | 10 => zG
 | 11 => zR
 | 12 => Value
 | 13 => yD
 | 14 => zX
 | 15 => yE
 | 16 => yG
 | 17 => yH
 | 18 => zA
 | 19 => yB
 | 20 => yI
 | 21 => Address
 | 22 => Pointer
 | 23 => zM
 | 24 => zC
 | 25 => yF
 | 26 => zK
 | 27 => zV
 | 28 => zS
 | 29 => zI
 | 30 => zQ
 | _ + 31 => Unit
@[reducible] def den : Ty → Type
 | .int _ => Int
 | .bool => Bool
 | .str => ByteArray
 | .nil => Unit
 | .sl t => List (den t)
 | .st n => z6d n
def eqTy : (a b : Ty) → Option (PLift (a = b))
 | .int j, .int k => if h : j = k then some ⟨by rw [h]⟩ else none
 | .bool, .bool => some ⟨rfl⟩
 | .str, .str => some ⟨rfl⟩
 | .nil, .nil => some ⟨rfl⟩
 | .sl a, .sl b => match eqTy a b with
  | some ⟨h⟩ => some ⟨by rw [h]⟩
  | none => none
 | .st i, .st j => if h : i = j then some ⟨by rw [h]⟩ else none
 | _, _ => none
@[reducible] def U : Uni := { Ty := Ty, den := den, eqTy := eqTy }
@[reducible] def T6 : Ty := Ty.int .i64
def w6 (n : Int) : Int := IntKind.wrap .i64 n
@[reducible] def Ty.zP : Ty := .st 0
@[reducible] def Ty.yA : Ty := .st 1
@[reducible] def Ty.zW : Ty := .st 2
@[reducible] def Ty.zH : Ty := .st 3
@[reducible] def Ty.Storage : Ty := .st 4
@[reducible] def Ty.zO : Ty := .st 5
@[reducible] def Ty.DataType : Ty := .st 6
@[reducible] def Ty.Number : Ty := .st 7
@[reducible] def Ty.zB : Ty := .st 8
@[reducible] def Ty.zT : Ty := .st 9
@[reducible] def Ty.zG : Ty := .st 10
@[reducible] def Ty.zR : Ty := .st 11
@[reducible] def Ty.Value : Ty := .st 12
@[reducible] def Ty.yD : Ty := .st 13
@[reducible] def Ty.zX : Ty := .st 14
@[reducible] def Ty.yE : Ty := .st 15
@[reducible] def Ty.yG : Ty := .st 16
@[reducible] def Ty.yH : Ty := .st 17
@[reducible] def Ty.zA : Ty := .st 18
@[reducible] def Ty.yB : Ty := .st 19
@[reducible] def Ty.yI : Ty := .st 20
@[reducible] def Ty.Address : Ty := .st 21
@[reducible] def Ty.Pointer : Ty := .st 22
@[reducible] def Ty.zM : Ty := .st 23
@[reducible] def Ty.zC : Ty := .st 24
@[reducible] def Ty.yF : Ty := .st 25
@[reducible] def Ty.zK : Ty := .st 26
@[reducible] def Ty.zV : Ty := .st 27
@[reducible] def Ty.zS : Ty := .st 28
@[reducible] def Ty.zI : Ty := .st 29
@[reducible] def Ty.zQ : Ty := .st 30
def za5 (k : IntKind) : List (AV U) → Option (Int × List (AV U))
 | .sc (.int k' n) :: l => if k = k' then some (n, l) else none
 | _ => none
def zfv : List (AV U) → Option (Bool × List (AV U))
 | .sc (.bool b) :: l => some (b, l)
 | _ => none
def zsk : List (AV U) → Option (ByteArray × List (AV U))
 | .sc (.string s) :: l => some (s, l)
 | _ => none
def rNil : List (AV U) → Option (Unit × List (AV U))
 | .sc (.slice none 0 0) :: l => some ((), l)
 | _ => none
def rSl (t : Ty) : List (AV U) → Option (List (den t) × List (AV U))
 | .lst t' xs :: l => (U.eqTy t' t).map fun e => (zz5 e xs, l)
 | .sc (.slice none 0 0) :: l => some ([], l)
 | _ => none
def zoi (l : List (AV U)) : Option (zP × List (AV U)) := (za5 .i64 l).bind fun x0 => (za5 .i64 x0.2).bind fun x1 => some (⟨x0.1, x1.1⟩, x1.2)
def zks (l : List (AV U)) : Option (yA × List (AV U)) := (za5 .i64 l).bind fun x0 => (za5 .i64 x0.2).bind fun x1 => (zfv x1.2).bind fun x2 => (za5 .u8 x2.2).bind fun x3 => some (⟨x0.1, x1.1, x2.1, x3.1⟩, x3.2)
def zht (l : List (AV U)) : Option (zW × List (AV U)) := (zsk l).bind fun x0 => (za5 .u64 x0.2).bind fun x1 => some (⟨x0.1, x1.1⟩, x1.2)
def zym (l : List (AV U)) : Option (zH × List (AV U)) := (za5 .i64 l).bind fun x0 => (zfv x0.2).bind fun x1 => (zfv x1.2).bind fun x2 => some (⟨x0.1, x1.1, x2.1⟩, x2.2)
def zmz (l : List (AV U)) : Option (Storage × List (AV U)) := (zsk l).bind fun x0 => (rSl Ty.bool x0.2).bind fun x1 => some (⟨x0.1, x1.1⟩, x1.2)
def zq7 (l : List (AV U)) : Option (zO × List (AV U)) := (zfv l).bind fun x0 => (za5 .i64 x0.2).bind fun x1 => (za5 .i64 x1.2).bind fun x2 => some (⟨x0.1, x1.1, x2.1⟩, x2.2)
def zls (l : List (AV U)) : Option (DataType × List (AV U)) := (za5 .i64 l).bind fun x0 => (za5 .i64 x0.2).bind fun x1 => (za5 .i64 x1.2).bind fun x2 => some (⟨x0.1, x1.1, x2.1⟩, x2.2)
def zwv (l : List (AV U)) : Option (Number × List (AV U)) := (za5 .i64 l).bind fun x0 => (za5 .i64 x0.2).bind fun x1 => some (⟨x0.1, x1.1⟩, x1.2)
def zol (l : List (AV U)) : Option (zB × List (AV U)) := (za5 .i64 l).bind fun x0 => (za5 .i64 x0.2).bind fun x1 => (za5 .i64 x1.2).bind fun x2 => (za5 .i64 x2.2).bind fun x3 => (za5 .i64 x3.2).bind fun x4 => (zq7 x4.2).bind fun x5 => (zq7 x5.2).bind fun x6 => (zls x6.2).bind fun x7 => (zls x7.2).bind fun x8 => (zfv x8.2).bind fun x9 => (zfv x9.2).bind fun x10 => (zwv x10.2).bind fun x11 => (zsk x11.2).bind fun x12 => (zsk x12.2).bind fun x13 => (za5 .i64 x13.2).bind fun x14 => (za5 .i64 x14.2).bind fun x15 => (za5 .i64 x15.2).bind fun x16 => (za5 .i64 x16.2).bind fun x17 => some (⟨x0.1, x1.1, x2.1, x3.1, x4.1, x5.1, x6.1, x7.1, x8.1, x9.1, x10.1, x11.1, x12.1, x13.1, x14.1, x15.1, x16.1, x17.1⟩, x17.2)
def z0j (l : List (AV U)) : Option (zT × List (AV U)) := (za5 .i64 l).bind fun x0 => (za5 .i64 x0.2).bind fun x1 => (za5 .i64 x1.2).bind fun x2 => (za5 .i64 x2.2).bind fun x3 => some (⟨x0.1, x1.1, x2.1, x3.1⟩, x3.2)
def zww (l : List (AV U)) : Option (zG × List (AV U)) := (zmz l).bind fun x0 => (rSl Ty.zB x0.2).bind fun x1 => (rSl Ty.zT x1.2).bind fun x2 => some (⟨x0.1, x1.1, x2.1⟩, x2.2)
def zvt (l : List (AV U)) : Option (zR × List (AV U)) := (rSl Ty.str l).bind fun x0 => (za5 .i64 x0.2).bind fun x1 => (za5 .i64 x1.2).bind fun x2 => (za5 .i64 x2.2).bind fun x3 => (za5 .i64 x3.2).bind fun x4 => (zmz x4.2).bind fun x5 => some (⟨x0.1, x1.1, x2.1, x3.1, x4.1, x5.1⟩, x5.2)
def zzj (l : List (AV U)) : Option (Value × List (AV U)) := (za5 .i64 l).bind fun x0 => (zsk x0.2).bind fun x1 => some (⟨x0.1, x1.1⟩, x1.2)
def ztv (l : List (AV U)) : Option (yD × List (AV U)) := (zsk l).bind fun x0 => (za5 .i64 x0.2).bind fun x1 => (zls x1.2).bind fun x2 => (zzj x2.2).bind fun x3 => (zsk x3.2).bind fun x4 => (za5 .i64 x4.2).bind fun x5 => (za5 .i64 x5.2).bind fun x6 => some (⟨x0.1, x1.1, x2.1, x3.1, x4.1, x5.1, x6.1⟩, x6.2)
def zok (l : List (AV U)) : Option (zX × List (AV U)) := (za5 .i64 l).bind fun x0 => (rSl (Ty.int .i64) x0.2).bind fun x1 => some (⟨x0.1, x1.1⟩, x1.2)
def ztw (l : List (AV U)) : Option (yE × List (AV U)) := (za5 .i64 l).bind fun x0 => (za5 .i64 x0.2).bind fun x1 => (za5 .i64 x1.2).bind fun x2 => (za5 .i64 x2.2).bind fun x3 => some (⟨x0.1, x1.1, x2.1, x3.1⟩, x3.2)
def zqk (l : List (AV U)) : Option (yG × List (AV U)) := (rSl Ty.yD l).bind fun x0 => (rSl Ty.zX x0.2).bind fun x1 => (rSl Ty.yE x1.2).bind fun x2 => some (⟨x0.1, x1.1, x2.1⟩, x2.2)
def zvs (l : List (AV U)) : Option (yH × List (AV U)) := (rSl Ty.str l).bind fun x0 => (za5 .i64 x0.2).bind fun x1 => (za5 .i64 x1.2).bind fun x2 => (za5 .i64 x2.2).bind fun x3 => some (⟨x0.1, x1.1, x2.1, x3.1⟩, x3.2)
def ztx (l : List (AV U)) : Option (zA × List (AV U)) := (rSl Ty.Number l).bind fun x0 => (za5 .i64 x0.2).bind fun x1 => (zmz x1.2).bind fun x2 => (za5 .i64 x2.2).bind fun x3 => (rSl (Ty.int .i64) x3.2).bind fun x4 => (rSl Ty.str x4.2).bind fun x5 => (za5 .i64 x5.2).bind fun x6 => (za5 .i64 x6.2).bind fun x7 => (za5 .i64 x7.2).bind fun x8 => (za5 .i64 x8.2).bind fun x9 => some (⟨x0.1, x1.1, x2.1, x3.1, x4.1, x5.1, x6.1, x7.1, x8.1, x9.1⟩, x9.2)
def ztu (l : List (AV U)) : Option (yB × List (AV U)) := (zmz l).bind fun x0 => (za5 .i64 x0.2).bind fun x1 => (rSl (Ty.int .i64) x1.2).bind fun x2 => (rSl Ty.str x2.2).bind fun x3 => (za5 .i64 x3.2).bind fun x4 => (za5 .i64 x4.2).bind fun x5 => (za5 .i64 x5.2).bind fun x6 => some (⟨x0.1, x1.1, x2.1, x3.1, x4.1, x5.1, x6.1⟩, x6.2)
def zyl (l : List (AV U)) : Option (yI × List (AV U)) := (za5 .i64 l).bind fun x0 => (za5 .i64 x0.2).bind fun x1 => some (⟨x0.1, x1.1⟩, x1.2)
def zty (l : List (AV U)) : Option (Address × List (AV U)) := (za5 .i64 l).bind fun x0 => (za5 .i64 x0.2).bind fun x1 => some (⟨x0.1, x1.1⟩, x1.2)
def zyk (l : List (AV U)) : Option (Pointer × List (AV U)) := (za5 .i64 l).bind fun x0 => (zty x0.2).bind fun x1 => (za5 .i64 x1.2).bind fun x2 => some (⟨x0.1, x1.1, x2.1⟩, x2.2)
def zp4 (l : List (AV U)) : Option (zM × List (AV U)) := (zfv l).bind fun x0 => (zfv x0.2).bind fun x1 => (zfv x1.2).bind fun x2 => (zfv x2.2).bind fun x3 => (zfv x3.2).bind fun x4 => (zfv x4.2).bind fun x5 => (zfv x5.2).bind fun x6 => (zfv x6.2).bind fun x7 => (zfv x7.2).bind fun x8 => (zfv x8.2).bind fun x9 => (zfv x9.2).bind fun x10 => (zfv x10.2).bind fun x11 => (zfv x11.2).bind fun x12 => (zfv x12.2).bind fun x13 => (za5 .i64 x13.2).bind fun x14 => (za5 .i64 x14.2).bind fun x15 => some (⟨x0.1, x1.1, x2.1, x3.1, x4.1, x5.1, x6.1, x7.1, x8.1, x9.1, x10.1, x11.1, x12.1, x13.1, x14.1, x15.1⟩, x15.2)
def zma (l : List (AV U)) : Option (zC × List (AV U)) := (ztx l).bind fun x0 => (zww x0.2).bind fun x1 => (za5 .i64 x1.2).bind fun x2 => some (⟨x0.1, x1.1, x2.1⟩, x2.2)
def zlo (l : List (AV U)) : Option (yF × List (AV U)) := (zqk l).bind fun x0 => (ztu x0.2).bind fun x1 => (rSl (Ty.int .i64) x1.2).bind fun x2 => (za5 .i64 x2.2).bind fun x3 => some (⟨x0.1, x1.1, x2.1, x3.1⟩, x3.2)
def zo7 (l : List (AV U)) : Option (zK × List (AV U)) := (zfv l).bind fun x0 => (rSl (Ty.int .i64) x0.2).bind fun x1 => some (⟨x0.1, x1.1⟩, x1.2)
def zof (l : List (AV U)) : Option (zV × List (AV U)) := (za5 .i64 l).bind fun x0 => (zls x0.2).bind fun x1 => (zfv x1.2).bind fun x2 => some (⟨x0.1, x1.1, x2.1⟩, x2.2)
def znn (l : List (AV U)) : Option (zS × List (AV U)) := (zo7 l).bind fun x0 => (rSl (Ty.int .i64) x0.2).bind fun x1 => some (⟨x0.1, x1.1⟩, x1.2)
def zsz (l : List (AV U)) : Option (zI × List (AV U)) := (za5 .u64 l).bind fun x0 => (za5 .u64 x0.2).bind fun x1 => (za5 .u64 x1.2).bind fun x2 => (za5 .u64 x2.2).bind fun x3 => some (⟨x0.1, x1.1, x2.1, x3.1⟩, x3.2)
def zl9 (l : List (AV U)) : Option (zQ × List (AV U)) := (zfv l).bind fun x0 => (zsz x0.2).bind fun x1 => (zsz x1.2).bind fun x2 => some (⟨x0.1, x1.1, x2.1⟩, x2.2)
def zs7 (x : zP) : List (AV U) := [.sc (.int .i64 x.fields), .sc (.int .i64 x.types)]
def zn2 (x : yA) : List (AV U) := [.sc (.int .i64 x.x), .sc (.int .i64 x.y), .sc (.bool x.signed), .sc (.int .u8 x.code)]
def zkq (x : zW) : List (AV U) := [.sc (.string x.msg), .sc (.int .u64 x.addr)]
def z39 (x : zH) : List (AV U) := [.sc (.int .i64 x.Registers), .sc (.bool x.yC), .sc (.bool x.zY)]
def z33 (x : Storage) : List (AV U) := [.sc (.string x.Bytes), .lst Ty.bool x.Tags]
def z38 (x : zO) : List (AV U) := [.sc (.bool x.Based), .sc (.int .i64 x.Pointer), .sc (.int .i64 x.Offset)]
def z1m (x : DataType) : List (AV U) := [.sc (.int .i64 x.Kind), .sc (.int .i64 x.Length), .sc (.int .i64 x.Scale)]
def z5u (x : Number) : List (AV U) := [.sc (.int .i64 x.N), .sc (.int .i64 x.Scale)]
def ziy (x : zB) : List (AV U) := [.sc (.int .i64 x.Op), .sc (.int .i64 x.R), .sc (.int .i64 x.A), .sc (.int .i64 x.B), .sc (.int .i64 x.zJ), .sc (.bool x.Place.Based), .sc (.int .i64 x.Place.Pointer), .sc (.int .i64 x.Place.Offset), .sc (.bool x.From.Based), .sc (.int .i64 x.From.Pointer), .sc (.int .i64 x.From.Offset), .sc (.int .i64 x.zF.Kind), .sc (.int .i64 x.zF.Length), .sc (.int .i64 x.zF.Scale), .sc (.int .i64 x.Second.Kind), .sc (.int .i64 x.Second.Length), .sc (.int .i64 x.Second.Scale), .sc (.bool x.Half), .sc (.bool x.zL), .sc (.int .i64 x.Number.N), .sc (.int .i64 x.Number.Scale), .sc (.string x.Text), .sc (.string x.Other), .sc (.int .i64 x.Mask), .sc (.int .i64 x.Target), .sc (.int .i64 x.Pointer), .sc (.int .i64 x.Source)]
def z5v (x : zT) : List (AV U) := [.sc (.int .i64 x.From), .sc (.int .i64 x.To), .sc (.int .i64 x.Exception), .sc (.int .i64 x.Handler)]
def zk9 (x : zG) : List (AV U) := [.sc (.string x.Storage.Bytes), .lst Ty.bool x.Storage.Tags, .lst Ty.zB x.zD, .lst Ty.zT x.zN]
def z1l (x : zR) : List (AV U) := [.lst Ty.str x.Lines, .sc (.int .i64 x.Status), .sc (.int .i64 x.Exception), .sc (.int .i64 x.Marks), .sc (.int .i64 x.Steps), .sc (.string x.Storage.Bytes), .lst Ty.bool x.Storage.Tags]
def z9d (x : Value) : List (AV U) := [.sc (.int .i64 x.N), .sc (.string x.S)]
def zzz (x : yD) : List (AV U) := [.sc (.string x.Name), .sc (.int .i64 x.Kind), .sc (.int .i64 x.zF.Kind), .sc (.int .i64 x.zF.Length), .sc (.int .i64 x.zF.Scale), .sc (.int .i64 x.Value.N), .sc (.string x.Value.S), .sc (.string x.Base), .sc (.int .i64 x.Offset), .sc (.int .i64 x.Target)]
def zs9 (x : zX) : List (AV U) := [.sc (.int .i64 x.Op), .lst (Ty.int .i64) x.Args]
def zz0 (x : yE) : List (AV U) := [.sc (.int .i64 x.From), .sc (.int .i64 x.To), .sc (.int .i64 x.Exception), .sc (.int .i64 x.Handler)]
def zzy (x : yG) : List (AV U) := [.lst Ty.yD x.yL, .lst Ty.zX x.zD, .lst Ty.yE x.yK]
def z1k (x : yH) : List (AV U) := [.lst Ty.str x.Lines, .sc (.int .i64 x.Status), .sc (.int .i64 x.Exception), .sc (.int .i64 x.Steps)]
def z37 (x : zA) : List (AV U) := [.lst Ty.Number x.Registers, .sc (.int .i64 x.Condition), .sc (.string x.Storage.Bytes), .lst Ty.bool x.Storage.Tags, .sc (.int .i64 x.At), .lst (Ty.int .i64) x.Stack, .lst Ty.str x.Lines, .sc (.int .i64 x.Status), .sc (.int .i64 x.Exception), .sc (.int .i64 x.Marks), .sc (.int .i64 x.Steps)]
def z35 (x : yB) : List (AV U) := [.sc (.string x.Storage.Bytes), .lst Ty.bool x.Storage.Tags, .sc (.int .i64 x.At), .lst (Ty.int .i64) x.Stack, .lst Ty.str x.Lines, .sc (.int .i64 x.Status), .sc (.int .i64 x.Exception), .sc (.int .i64 x.Steps)]
def z36 (x : yI) : List (AV U) := [.sc (.int .i64 x.Part), .sc (.int .i64 x.Index)]
def z4a (x : Address) : List (AV U) := [.sc (.int .i64 x.zZ), .sc (.int .i64 x.Offset)]
def z34 (x : Pointer) : List (AV U) := [.sc (.int .i64 x.Kind), .sc (.int .i64 x.Address.zZ), .sc (.int .i64 x.Address.Offset), .sc (.int .i64 x.Authority)]
def zux (x : zM) : List (AV U) := [.sc (.bool x.R), .sc (.bool x.A), .sc (.bool x.B), .sc (.bool x.Place), .sc (.bool x.From), .sc (.bool x.Half), .sc (.bool x.Number), .sc (.bool x.zJ), .sc (.bool x.Mask), .sc (.bool x.Target), .sc (.bool x.Text), .sc (.bool x.Other), .sc (.bool x.Pointer), .sc (.bool x.Source), .sc (.int .i64 x.zF), .sc (.int .i64 x.Second)]
def zqc (x : zC) : List (AV U) := [.lst Ty.Number x.zA.Registers, .sc (.int .i64 x.zA.Condition), .sc (.string x.zA.Storage.Bytes), .lst Ty.bool x.zA.Storage.Tags, .sc (.int .i64 x.zA.At), .lst (Ty.int .i64) x.zA.Stack, .lst Ty.str x.zA.Lines, .sc (.int .i64 x.zA.Status), .sc (.int .i64 x.zA.Exception), .sc (.int .i64 x.zA.Marks), .sc (.int .i64 x.zA.Steps), .sc (.string x.code.Storage.Bytes), .lst Ty.bool x.code.Storage.Tags, .lst Ty.zB x.code.zD, .lst Ty.zT x.code.zN, .sc (.int .i64 x.raised)]
def zp0 (x : yF) : List (AV U) := [.lst Ty.yD x.yG.yL, .lst Ty.zX x.yG.zD, .lst Ty.yE x.yG.yK, .sc (.string x.yB.Storage.Bytes), .lst Ty.bool x.yB.Storage.Tags, .sc (.int .i64 x.yB.At), .lst (Ty.int .i64) x.yB.Stack, .lst Ty.str x.yB.Lines, .sc (.int .i64 x.yB.Status), .sc (.int .i64 x.yB.Exception), .sc (.int .i64 x.yB.Steps), .lst (Ty.int .i64) x.layout, .sc (.int .i64 x.raised)]
def zxr (x : zK) : List (AV U) := [.sc (.bool x.Below), .lst (Ty.int .i64) x.zU]
def zs6 (x : zV) : List (AV U) := [.sc (.int .i64 x.Op), .sc (.int .i64 x.zF.Kind), .sc (.int .i64 x.zF.Length), .sc (.int .i64 x.zF.Scale), .sc (.bool x.Half)]
def zr3 (x : zS) : List (AV U) := [.sc (.bool x.Top.Below), .lst (Ty.int .i64) x.Top.zU, .lst (Ty.int .i64) x.yJ]
def z5w (x : zI) : List (AV U) := [.sc (.int .u64 x.e0), .sc (.int .u64 x.e1), .sc (.int .u64 x.e2), .sc (.int .u64 x.e3)]
def zqb (x : zQ) : List (AV U) := [.sc (.bool x.below), .sc (.int .u64 x.amount.e0), .sc (.int .u64 x.amount.e1), .sc (.int .u64 x.amount.e2), .sc (.int .u64 x.amount.e3), .sc (.int .u64 x.division.e0), .sc (.int .u64 x.division.e1), .sc (.int .u64 x.division.e2), .sc (.int .u64 x.division.e3)]
def zahc : (n : Nat) → z6d n → List (AV U)
 | 0, x => zs7 x
 | 1, x => zn2 x
 | 2, x => zkq x
 | 3, x => z39 x
 | 4, x => z33 x
 | 5, x => z38 x
 | 6, x => z1m x
 | 7, x => z5u x
 | 8, x => ziy x
 | 9, x => z5v x
 | 10, x => zk9 x
 | 11, x => z1l x
 | 12, x => z9d x
 | 13, x => zzz x
 | 14, x => zs9 x
 | 15, x => zz0 x
 | 16, x => zzy x
 | 17, x => z1k x
 | 18, x => z37 x
 | 19, x => z35 x
 | 20, x => z36 x
 | 21, x => z4a x
 | 22, x => z34 x
 | 23, x => zux x
 | 24, x => zqc x
 | 25, x => zp0 x
 | 26, x => zxr x
 | 27, x => zs6 x
 | 28, x => zr3 x
 | 29, x => z5w x
 | 30, x => zqb x
 | _ + 31, _ => [.sc (.bool true)]
def rdSt : (n : Nat) → List (AV U) → Option (z6d n × List (AV U))
 | 0, l => zoi l
 | 1, l => zks l
 | 2, l => zht l
 | 3, l => zym l
 | 4, l => zmz l
 | 5, l => zq7 l
 | 6, l => zls l
 | 7, l => zwv l
 | 8, l => zol l
 | 9, l => z0j l
 | 10, l => zww l
 | 11, l => zvt l
 | 12, l => zzj l
 | 13, l => ztv l
 | 14, l => zok l
 | 15, l => ztw l
 | 16, l => zqk l
 | 17, l => zvs l
 | 18, l => ztx l
 | 19, l => ztu l
 | 20, l => zyl l
 | 21, l => zty l
 | 22, l => zyk l
 | 23, l => zp4 l
 | 24, l => zma l
 | 25, l => zlo l
 | 26, l => zo7 l
 | 27, l => zof l
 | 28, l => znn l
 | 29, l => zsz l
 | 30, l => zl9 l
 | _ + 31, _ => none
def enc : (t : Ty) → den t → List (AV U)
 | .int k, n => [.sc (.int k n)]
 | .bool, b => [.sc (.bool b)]
 | .str, s => [.sc (.string s)]
 | .nil, _ => [.sc (.slice none 0 0)]
 | .sl t, xs => [.lst t xs]
 | .st n, x => zahc n x
def rd : (t : Ty) → List (AV U) → Option (den t × List (AV U))
 | .int k, l => za5 k l
 | .bool, l => zfv l
 | .str, l => zsk l
 | .nil, l => rNil l
 | .sl t, l => rSl t l
 | .st n, l => rdSt n l
def reify (t : Ty) (l : List (AV U)) : Option (den t) := (rd t l).bind fun r => match r.2 with
 | [] => some r.1
 | _ => none
def szSt : Nat → Nat
 | 0 => 2
 | 1 => 4
 | 2 => 2
 | 3 => 3
 | 4 => 2
 | 5 => 3
 | 6 => 3
 | 7 => 2
 | 8 => 27
 | 9 => 4
 | 10 => 4
 | 11 => 7
 | 12 => 2
 | 13 => 10
 | 14 => 2
 | 15 => 4
 | 16 => 3
 | 17 => 4
 | 18 => 11
 | 19 => 8
 | 20 => 2
 | 21 => 2
 | 22 => 4
 | 23 => 16
 | 24 => 16
 | 25 => 13
 | 26 => 2
 | 27 => 5
 | 28 => 3
 | 29 => 4
 | 30 => 9
 | _ + 31 => 1
def zaee : Nat → Bool
 | 0 => true
 | 1 => true
 | 2 => true
 | 3 => true
 | 4 => false
 | 5 => true
 | 6 => true
 | 7 => true
 | 8 => true
 | 9 => true
 | 10 => false
 | 11 => false
 | 12 => true
 | 13 => true
 | 14 => false
 | 15 => true
 | 16 => false
 | 17 => false
 | 18 => false
 | 19 => false
 | 20 => true
 | 21 => true
 | 22 => true
 | 23 => true
 | 24 => false
 | 25 => false
 | 26 => false
 | 27 => true
 | 28 => false
 | 29 => true
 | 30 => true
 | _ + 31 => true
def szT : Ty → Nat
 | .st n => szSt n
 | _ => 1
def aggT : Ty → Bool
 | .st _ => true
 | _ => false
def zabe : Ty → Bool
 | .sl _ => false
 | .st n => zaee n
 | _ => true
def zaba : List (Nat × Ty) := [(2, (Ty.int .i64)), (3, (Ty.int .i64)), (4, Ty.bool), (5, (Ty.int .u8)), (6, (Ty.int .u8)), (8, Ty.yA), (9, Ty.str), (10, Ty.str), (11, Ty.str), (12, (Ty.int .u64)), (14, Ty.zW), (21, (Ty.int .i32)), (23, Ty.zH), (24, (Ty.sl Ty.bool)), (26, Ty.Storage), (27, (Ty.sl Ty.zB)), (28, (Ty.sl Ty.zT)), (30, Ty.zG), (33, (Ty.int .i64)), (42, (Ty.sl Ty.str)), (44, Ty.zR), (54, (Ty.sl Ty.yD)), (55, (Ty.sl Ty.zX)), (56, (Ty.sl Ty.yE)), (58, Ty.yG), (61, Ty.yH), (68, (Ty.sl Ty.Number)), (69, (Ty.sl (Ty.int .i64))), (71, Ty.zA), (84, Ty.Number), (89, Ty.zO), (91, Ty.DataType), (93, Ty.zB), (101, Ty.zT), (117, Ty.Value), (119, Ty.yD), (121, Ty.zX), (123, Ty.yB), (128, Ty.yI), (142, Ty.Address), (144, Ty.Pointer), (154, (Ty.sl (Ty.int .i64))), (159, Ty.zP), (164, Ty.zM), (173, Ty.zC), (186, Ty.yE), (203, (Ty.sl (Ty.int .u8))), (224, Ty.yF), (248, Ty.zK), (262, Ty.zV), (263, (Ty.int .u64)), (312, Ty.zS), (321, (Ty.int .u64)), (322, Ty.zI), (323, Ty.zI), (325, Ty.zQ), (348, (Ty.int .i8)), (374, (Ty.int .u32)), (383, (Ty.sl (Ty.sl (Ty.int .u8)))), (405, (Ty.int .u8)), (406, (Ty.int .u8)), (408, (Ty.int .i32)), (409, (Ty.int .i32))]
def En : Enc U := { sz := szT, agg := aggT, flat := zabe, enc := enc, reify := reify, ofGo := pick zaba, sl := Ty.sl, toSl := fun _ xs => xs, ofSl := fun _ xs => xs, u8 := .int .u8, ofInts := fun l => l, toInts := fun l => l }
def z64 : List zP := [⟨41, 1⟩, ⟨169, 1⟩, ⟨257, 0⟩, ⟨3, 0⟩, ⟨32807, 1⟩, ⟨6, 0⟩, ⟨6144, 0⟩, ⟨6150, 0⟩, ⟨4096, 0⟩, ⟨120, 2⟩, ⟨552, 2⟩, ⟨120, 2⟩, ⟨552, 2⟩, ⟨1536, 0⟩, ⟨8232, 3⟩, ⟨24576, 0⟩, ⟨8193, 0⟩, ⟨8192, 0⟩, ⟨4096, 0⟩, ⟨0, 0⟩, ⟨1, 0⟩, ⟨1, 0⟩, ⟨1, 0⟩, ⟨40, 2⟩, ⟨512, 0⟩, ⟨0, 0⟩, ⟨0, 0⟩]
def zabc : List Int := [1, 10, 100, 1000, 10000, 100000, 1000000, 10000000, 100000000, 1000000000, 10000000000, 100000000000, 1000000000000, 10000000000000, 100000000000000, 1000000000000000, 10000000000000000, 100000000000000000, 1000000000000000000, 10000000000000000000]
def zagt : List Int := [0, 1, 28, 2, 29, 14, 24, 3, 30, 22, 20, 15, 25, 17, 4, 8, 31, 27, 13, 23, 21, 19, 16, 7, 26, 12, 18, 6, 11, 5, 10, 9]
def zags : List Int := [0, 1, 56, 2, 57, 49, 28, 3, 61, 58, 42, 50, 38, 29, 17, 4, 62, 47, 59, 36, 45, 43, 51, 22, 53, 39, 33, 30, 24, 18, 12, 5, 63, 55, 48, 27, 60, 41, 37, 16, 46, 35, 44, 21, 52, 32, 23, 11, 54, 26, 40, 15, 34, 20, 31, 10, 25, 14, 19, 9, 13, 8, 7, 6]
def globs : List (Nat × AV U) := [(0, .rarr Ty.zP z64), (3, .rarr (Ty.int .u64) zabc), (4, .rarr (Ty.int .u8) zagt), (5, .rarr (Ty.int .u8) zags)]
def zso (O : List (Nat × Ct U)) (X : List (Nat × Nat)) (J : List (Nat × Amx.Spec U × List Ty)) (pre : List (Nat × List Nat)) (lits ro pk bj : List Nat) : Ctx U :=
 { P := Proofs.Tryz.prog, En := En, G := pick globs, O := pick O, X := pick X, joins := pick J, pre := fun r => (pick pre r).getD [], lits := lits, ro := ro, pk := pk, bj := bj }
theorem z9 (k : IntKind) : Sp (U := U) (za5 k) (fun n : Int => [.sc (.int k n)]) := fun l x r h => by
 unfold za5 at h
 split at h
 · split at h
   · rename_i e; cases h; subst e; exact ⟨[_], rfl, F2.refl_ref _⟩
   · cases h
 · cases h
theorem zds : Sp (U := U) zfv (fun b : Bool => [.sc (.bool b)]) := fun l x r h => by
 unfold zfv at h
 split at h
 · cases h; exact ⟨[_], rfl, F2.refl_ref _⟩
 · cases h
theorem zpj : Sp (U := U) zsk (fun s : ByteArray => [.sc (.string s)]) := fun l x r h => by
 unfold zsk at h
 split at h
 · cases h; exact ⟨[_], rfl, F2.refl_ref _⟩
 · cases h
theorem zadk : Sp (U := U) rNil (fun _ : Unit => [.sc (.slice none 0 0)]) := fun l x r h => by
 unfold rNil at h
 split at h
 · cases h; exact ⟨[_], rfl, F2.refl_ref _⟩
 · cases h
theorem zjd (t : Ty) : Sp (U := U) (rSl t) (fun xs : List (den t) => [.lst t xs]) := fun l x r h => by
 unfold rSl at h
 split at h
 · rw [Option.map_eq_some_iff] at h; obtain ⟨⟨e⟩, _, h2⟩ := h; cases e; cases h2; exact ⟨[_], rfl, F2.refl_ref _⟩
 · cases h; exact ⟨[_], rfl, .cons (.inr ⟨rfl, _, rfl⟩) .nil⟩
 · cases h
theorem zx3 : Sp (U := U) zoi zs7 := fun l x r h => by
 unfold zoi at h
 obtain ⟨x0, r0, p0, e0, f0, h⟩ := (z9 .i64).step h
 obtain ⟨x1, r1, p1, (e1 : r0 = p1 ++ r1), f1, h⟩ := (z9 .i64).step h
 cases h
 exact ⟨(p0 ++ p1), by rw [e0, e1]; simp only [List.append_assoc], (f0.append f1)⟩
theorem zse : Sp (U := U) zks zn2 := fun l x r h => by
 unfold zks at h
 obtain ⟨x0, r0, p0, e0, f0, h⟩ := (z9 .i64).step h
 obtain ⟨x1, r1, p1, (e1 : r0 = p1 ++ r1), f1, h⟩ := (z9 .i64).step h
 obtain ⟨x2, r2, p2, (e2 : r1 = p2 ++ r2), f2, h⟩ := zds.step h
 obtain ⟨x3, r3, p3, (e3 : r2 = p3 ++ r3), f3, h⟩ := (z9 .u8).step h
 cases h
 exact ⟨(p0 ++ (p1 ++ (p2 ++ p3))), by rw [e0, e1, e2, e3]; simp only [List.append_assoc], (f0.append (f1.append (f2.append f3)))⟩
theorem zoa : Sp (U := U) zht zkq := fun l x r h => by
 unfold zht at h
 obtain ⟨x0, r0, p0, e0, f0, h⟩ := zpj.step h
 obtain ⟨x1, r1, p1, (e1 : r0 = p1 ++ r1), f1, h⟩ := (z9 .u64).step h
 cases h
 exact ⟨(p0 ++ p1), by rw [e0, e1]; simp only [List.append_assoc], (f0.append f1)⟩
theorem z6g : Sp (U := U) zym z39 := fun l x r h => by
 unfold zym at h
 obtain ⟨x0, r0, p0, e0, f0, h⟩ := (z9 .i64).step h
 obtain ⟨x1, r1, p1, (e1 : r0 = p1 ++ r1), f1, h⟩ := zds.step h
 obtain ⟨x2, r2, p2, (e2 : r1 = p2 ++ r2), f2, h⟩ := zds.step h
 cases h
 exact ⟨(p0 ++ (p1 ++ p2)), by rw [e0, e1, e2]; simp only [List.append_assoc], (f0.append (f1.append f2))⟩
theorem znk : Sp (U := U) zmz z33 := fun l x r h => by
 unfold zmz at h
 obtain ⟨x0, r0, p0, e0, f0, h⟩ := zpj.step h
 obtain ⟨x1, r1, p1, (e1 : r0 = p1 ++ r1), f1, h⟩ := (zjd Ty.bool).step h
 cases h
 exact ⟨(p0 ++ p1), by rw [e0, e1]; simp only [List.append_assoc], (f0.append f1)⟩
theorem ztm : Sp (U := U) zq7 z38 := fun l x r h => by
 unfold zq7 at h
 obtain ⟨x0, r0, p0, e0, f0, h⟩ := zds.step h
 obtain ⟨x1, r1, p1, (e1 : r0 = p1 ++ r1), f1, h⟩ := (z9 .i64).step h
 obtain ⟨x2, r2, p2, (e2 : r1 = p2 ++ r2), f2, h⟩ := (z9 .i64).step h
 cases h
 exact ⟨(p0 ++ (p1 ++ p2)), by rw [e0, e1, e2]; simp only [List.append_assoc], (f0.append (f1.append f2))⟩
theorem zmc : Sp (U := U) zls z1m := fun l x r h => by
 unfold zls at h
 obtain ⟨x0, r0, p0, e0, f0, h⟩ := (z9 .i64).step h
 obtain ⟨x1, r1, p1, (e1 : r0 = p1 ++ r1), f1, h⟩ := (z9 .i64).step h
 obtain ⟨x2, r2, p2, (e2 : r1 = p2 ++ r2), f2, h⟩ := (z9 .i64).step h
 cases h
 exact ⟨(p0 ++ (p1 ++ p2)), by rw [e0, e1, e2]; simp only [List.append_assoc], (f0.append (f1.append f2))⟩
theorem z02 : Sp (U := U) zwv z5u := fun l x r h => by
 unfold zwv at h
 obtain ⟨x0, r0, p0, e0, f0, h⟩ := (z9 .i64).step h
 obtain ⟨x1, r1, p1, (e1 : r0 = p1 ++ r1), f1, h⟩ := (z9 .i64).step h
 cases h
 exact ⟨(p0 ++ p1), by rw [e0, e1]; simp only [List.append_assoc], (f0.append f1)⟩
theorem zx5 : Sp (U := U) zol ziy := fun l x r h => by
 unfold zol at h
 obtain ⟨x0, r0, p0, e0, f0, h⟩ := (z9 .i64).step h
 obtain ⟨x1, r1, p1, (e1 : r0 = p1 ++ r1), f1, h⟩ := (z9 .i64).step h
 obtain ⟨x2, r2, p2, (e2 : r1 = p2 ++ r2), f2, h⟩ := (z9 .i64).step h
 obtain ⟨x3, r3, p3, (e3 : r2 = p3 ++ r3), f3, h⟩ := (z9 .i64).step h
 obtain ⟨x4, r4, p4, (e4 : r3 = p4 ++ r4), f4, h⟩ := (z9 .i64).step h
 obtain ⟨x5, r5, p5, (e5 : r4 = p5 ++ r5), f5, h⟩ := ztm.step h
 obtain ⟨x6, r6, p6, (e6 : r5 = p6 ++ r6), f6, h⟩ := ztm.step h
 obtain ⟨x7, r7, p7, (e7 : r6 = p7 ++ r7), f7, h⟩ := zmc.step h
 obtain ⟨x8, r8, p8, (e8 : r7 = p8 ++ r8), f8, h⟩ := zmc.step h
 obtain ⟨x9, r9, p9, (e9 : r8 = p9 ++ r9), f9, h⟩ := zds.step h
 obtain ⟨x10, r10, p10, (e10 : r9 = p10 ++ r10), f10, h⟩ := zds.step h
 obtain ⟨x11, r11, p11, (e11 : r10 = p11 ++ r11), f11, h⟩ := z02.step h
 obtain ⟨x12, r12, p12, (e12 : r11 = p12 ++ r12), f12, h⟩ := zpj.step h
 obtain ⟨x13, r13, p13, (e13 : r12 = p13 ++ r13), f13, h⟩ := zpj.step h
 obtain ⟨x14, r14, p14, (e14 : r13 = p14 ++ r14), f14, h⟩ := (z9 .i64).step h
 obtain ⟨x15, r15, p15, (e15 : r14 = p15 ++ r15), f15, h⟩ := (z9 .i64).step h
 obtain ⟨x16, r16, p16, (e16 : r15 = p16 ++ r16), f16, h⟩ := (z9 .i64).step h
 obtain ⟨x17, r17, p17, (e17 : r16 = p17 ++ r17), f17, h⟩ := (z9 .i64).step h
 cases h
 exact ⟨(p0 ++ (p1 ++ (p2 ++ (p3 ++ (p4 ++ (p5 ++ (p6 ++ (p7 ++ (p8 ++ (p9 ++ (p10 ++ (p11 ++ (p12 ++ (p13 ++ (p14 ++ (p15 ++ (p16 ++ p17))))))))))))))))), by rw [e0, e1, e2, e3, e4, e5, e6, e7, e8, e9, e10, e11, e12, e13, e14, e15, e16, e17]; simp only [List.append_assoc], (f0.append (f1.append (f2.append (f3.append (f4.append (f5.append (f6.append (f7.append (f8.append (f9.append (f10.append (f11.append (f12.append (f13.append (f14.append (f15.append (f16.append f17)))))))))))))))))⟩
theorem z7u : Sp (U := U) z0j z5v := fun l x r h => by
 unfold z0j at h
 obtain ⟨x0, r0, p0, e0, f0, h⟩ := (z9 .i64).step h
 obtain ⟨x1, r1, p1, (e1 : r0 = p1 ++ r1), f1, h⟩ := (z9 .i64).step h
 obtain ⟨x2, r2, p2, (e2 : r1 = p2 ++ r2), f2, h⟩ := (z9 .i64).step h
 obtain ⟨x3, r3, p3, (e3 : r2 = p3 ++ r3), f3, h⟩ := (z9 .i64).step h
 cases h
 exact ⟨(p0 ++ (p1 ++ (p2 ++ p3))), by rw [e0, e1, e2, e3]; simp only [List.append_assoc], (f0.append (f1.append (f2.append f3)))⟩
theorem z03 : Sp (U := U) zww zk9 := fun l x r h => by
 unfold zww at h
 obtain ⟨x0, r0, p0, e0, f0, h⟩ := znk.step h
 obtain ⟨x1, r1, p1, (e1 : r0 = p1 ++ r1), f1, h⟩ := (zjd Ty.zB).step h
 obtain ⟨x2, r2, p2, (e2 : r1 = p2 ++ r2), f2, h⟩ := (zjd Ty.zT).step h
 cases h
 exact ⟨(p0 ++ (p1 ++ p2)), by rw [e0, e1, e2]; simp only [List.append_assoc], (f0.append (f1.append f2))⟩
theorem z4t : Sp (U := U) zvt z1l := fun l x r h => by
 unfold zvt at h
 obtain ⟨x0, r0, p0, e0, f0, h⟩ := (zjd Ty.str).step h
 obtain ⟨x1, r1, p1, (e1 : r0 = p1 ++ r1), f1, h⟩ := (z9 .i64).step h
 obtain ⟨x2, r2, p2, (e2 : r1 = p2 ++ r2), f2, h⟩ := (z9 .i64).step h
 obtain ⟨x3, r3, p3, (e3 : r2 = p3 ++ r3), f3, h⟩ := (z9 .i64).step h
 obtain ⟨x4, r4, p4, (e4 : r3 = p4 ++ r4), f4, h⟩ := (z9 .i64).step h
 obtain ⟨x5, r5, p5, (e5 : r4 = p5 ++ r5), f5, h⟩ := znk.step h
 cases h
 exact ⟨(p0 ++ (p1 ++ (p2 ++ (p3 ++ (p4 ++ p5))))), by rw [e0, e1, e2, e3, e4, e5]; simp only [List.append_assoc], (f0.append (f1.append (f2.append (f3.append (f4.append f5)))))⟩
theorem z2i : Sp (U := U) zzj z9d := fun l x r h => by
 unfold zzj at h
 obtain ⟨x0, r0, p0, e0, f0, h⟩ := (z9 .i64).step h
 obtain ⟨x1, r1, p1, (e1 : r0 = p1 ++ r1), f1, h⟩ := zpj.step h
 cases h
 exact ⟨(p0 ++ p1), by rw [e0, e1]; simp only [List.append_assoc], (f0.append f1)⟩
theorem z2j : Sp (U := U) ztv zzz := fun l x r h => by
 unfold ztv at h
 obtain ⟨x0, r0, p0, e0, f0, h⟩ := zpj.step h
 obtain ⟨x1, r1, p1, (e1 : r0 = p1 ++ r1), f1, h⟩ := (z9 .i64).step h
 obtain ⟨x2, r2, p2, (e2 : r1 = p2 ++ r2), f2, h⟩ := zmc.step h
 obtain ⟨x3, r3, p3, (e3 : r2 = p3 ++ r3), f3, h⟩ := z2i.step h
 obtain ⟨x4, r4, p4, (e4 : r3 = p4 ++ r4), f4, h⟩ := zpj.step h
 obtain ⟨x5, r5, p5, (e5 : r4 = p5 ++ r5), f5, h⟩ := (z9 .i64).step h
 obtain ⟨x6, r6, p6, (e6 : r5 = p6 ++ r6), f6, h⟩ := (z9 .i64).step h
 cases h
 exact ⟨(p0 ++ (p1 ++ (p2 ++ (p3 ++ (p4 ++ (p5 ++ p6)))))), by rw [e0, e1, e2, e3, e4, e5, e6]; simp only [List.append_assoc], (f0.append (f1.append (f2.append (f3.append (f4.append (f5.append f6))))))⟩
theorem zx4 : Sp (U := U) zok zs9 := fun l x r h => by
 unfold zok at h
 obtain ⟨x0, r0, p0, e0, f0, h⟩ := (z9 .i64).step h
 obtain ⟨x1, r1, p1, (e1 : r0 = p1 ++ r1), f1, h⟩ := (zjd (Ty.int .i64)).step h
 cases h
 exact ⟨(p0 ++ p1), by rw [e0, e1]; simp only [List.append_assoc], (f0.append f1)⟩
theorem z2k : Sp (U := U) ztw zz0 := fun l x r h => by
 unfold ztw at h
 obtain ⟨x0, r0, p0, e0, f0, h⟩ := (z9 .i64).step h
 obtain ⟨x1, r1, p1, (e1 : r0 = p1 ++ r1), f1, h⟩ := (z9 .i64).step h
 obtain ⟨x2, r2, p2, (e2 : r1 = p2 ++ r2), f2, h⟩ := (z9 .i64).step h
 obtain ⟨x3, r3, p3, (e3 : r2 = p3 ++ r3), f3, h⟩ := (z9 .i64).step h
 cases h
 exact ⟨(p0 ++ (p1 ++ (p2 ++ p3))), by rw [e0, e1, e2, e3]; simp only [List.append_assoc], (f0.append (f1.append (f2.append f3)))⟩
theorem zva : Sp (U := U) zqk zzy := fun l x r h => by
 unfold zqk at h
 obtain ⟨x0, r0, p0, e0, f0, h⟩ := (zjd Ty.yD).step h
 obtain ⟨x1, r1, p1, (e1 : r0 = p1 ++ r1), f1, h⟩ := (zjd Ty.zX).step h
 obtain ⟨x2, r2, p2, (e2 : r1 = p2 ++ r2), f2, h⟩ := (zjd Ty.yE).step h
 cases h
 exact ⟨(p0 ++ (p1 ++ p2)), by rw [e0, e1, e2]; simp only [List.append_assoc], (f0.append (f1.append f2))⟩
theorem z4s : Sp (U := U) zvs z1k := fun l x r h => by
 unfold zvs at h
 obtain ⟨x0, r0, p0, e0, f0, h⟩ := (zjd Ty.str).step h
 obtain ⟨x1, r1, p1, (e1 : r0 = p1 ++ r1), f1, h⟩ := (z9 .i64).step h
 obtain ⟨x2, r2, p2, (e2 : r1 = p2 ++ r2), f2, h⟩ := (z9 .i64).step h
 obtain ⟨x3, r3, p3, (e3 : r2 = p3 ++ r3), f3, h⟩ := (z9 .i64).step h
 cases h
 exact ⟨(p0 ++ (p1 ++ (p2 ++ p3))), by rw [e0, e1, e2, e3]; simp only [List.append_assoc], (f0.append (f1.append (f2.append f3)))⟩
theorem zy6 : Sp (U := U) ztx z37 := fun l x r h => by
 unfold ztx at h
 obtain ⟨x0, r0, p0, e0, f0, h⟩ := (zjd Ty.Number).step h
 obtain ⟨x1, r1, p1, (e1 : r0 = p1 ++ r1), f1, h⟩ := (z9 .i64).step h
 obtain ⟨x2, r2, p2, (e2 : r1 = p2 ++ r2), f2, h⟩ := znk.step h
 obtain ⟨x3, r3, p3, (e3 : r2 = p3 ++ r3), f3, h⟩ := (z9 .i64).step h
 obtain ⟨x4, r4, p4, (e4 : r3 = p4 ++ r4), f4, h⟩ := (zjd (Ty.int .i64)).step h
 obtain ⟨x5, r5, p5, (e5 : r4 = p5 ++ r5), f5, h⟩ := (zjd Ty.str).step h
 obtain ⟨x6, r6, p6, (e6 : r5 = p6 ++ r6), f6, h⟩ := (z9 .i64).step h
 obtain ⟨x7, r7, p7, (e7 : r6 = p7 ++ r7), f7, h⟩ := (z9 .i64).step h
 obtain ⟨x8, r8, p8, (e8 : r7 = p8 ++ r8), f8, h⟩ := (z9 .i64).step h
 obtain ⟨x9, r9, p9, (e9 : r8 = p9 ++ r9), f9, h⟩ := (z9 .i64).step h
 cases h
 exact ⟨(p0 ++ (p1 ++ (p2 ++ (p3 ++ (p4 ++ (p5 ++ (p6 ++ (p7 ++ (p8 ++ p9))))))))), by rw [e0, e1, e2, e3, e4, e5, e6, e7, e8, e9]; simp only [List.append_assoc], (f0.append (f1.append (f2.append (f3.append (f4.append (f5.append (f6.append (f7.append (f8.append f9)))))))))⟩
theorem zy5 : Sp (U := U) ztu z35 := fun l x r h => by
 unfold ztu at h
 obtain ⟨x0, r0, p0, e0, f0, h⟩ := znk.step h
 obtain ⟨x1, r1, p1, (e1 : r0 = p1 ++ r1), f1, h⟩ := (z9 .i64).step h
 obtain ⟨x2, r2, p2, (e2 : r1 = p2 ++ r2), f2, h⟩ := (zjd (Ty.int .i64)).step h
 obtain ⟨x3, r3, p3, (e3 : r2 = p3 ++ r3), f3, h⟩ := (zjd Ty.str).step h
 obtain ⟨x4, r4, p4, (e4 : r3 = p4 ++ r4), f4, h⟩ := (z9 .i64).step h
 obtain ⟨x5, r5, p5, (e5 : r4 = p5 ++ r5), f5, h⟩ := (z9 .i64).step h
 obtain ⟨x6, r6, p6, (e6 : r5 = p6 ++ r6), f6, h⟩ := (z9 .i64).step h
 cases h
 exact ⟨(p0 ++ (p1 ++ (p2 ++ (p3 ++ (p4 ++ (p5 ++ p6)))))), by rw [e0, e1, e2, e3, e4, e5, e6]; simp only [List.append_assoc], (f0.append (f1.append (f2.append (f3.append (f4.append (f5.append f6))))))⟩
theorem z6f : Sp (U := U) zyl z36 := fun l x r h => by
 unfold zyl at h
 obtain ⟨x0, r0, p0, e0, f0, h⟩ := (z9 .i64).step h
 obtain ⟨x1, r1, p1, (e1 : r0 = p1 ++ r1), f1, h⟩ := (z9 .i64).step h
 cases h
 exact ⟨(p0 ++ p1), by rw [e0, e1]; simp only [List.append_assoc], (f0.append f1)⟩
theorem zy7 : Sp (U := U) zty z4a := fun l x r h => by
 unfold zty at h
 obtain ⟨x0, r0, p0, e0, f0, h⟩ := (z9 .i64).step h
 obtain ⟨x1, r1, p1, (e1 : r0 = p1 ++ r1), f1, h⟩ := (z9 .i64).step h
 cases h
 exact ⟨(p0 ++ p1), by rw [e0, e1]; simp only [List.append_assoc], (f0.append f1)⟩
theorem z6e : Sp (U := U) zyk z34 := fun l x r h => by
 unfold zyk at h
 obtain ⟨x0, r0, p0, e0, f0, h⟩ := (z9 .i64).step h
 obtain ⟨x1, r1, p1, (e1 : r0 = p1 ++ r1), f1, h⟩ := zy7.step h
 obtain ⟨x2, r2, p2, (e2 : r1 = p2 ++ r2), f2, h⟩ := (z9 .i64).step h
 cases h
 exact ⟨(p0 ++ (p1 ++ p2)), by rw [e0, e1, e2]; simp only [List.append_assoc], (f0.append (f1.append f2))⟩
theorem zy4 : Sp (U := U) zp4 zux := fun l x r h => by
 unfold zp4 at h
 obtain ⟨x0, r0, p0, e0, f0, h⟩ := zds.step h
 obtain ⟨x1, r1, p1, (e1 : r0 = p1 ++ r1), f1, h⟩ := zds.step h
 obtain ⟨x2, r2, p2, (e2 : r1 = p2 ++ r2), f2, h⟩ := zds.step h
 obtain ⟨x3, r3, p3, (e3 : r2 = p3 ++ r3), f3, h⟩ := zds.step h
 obtain ⟨x4, r4, p4, (e4 : r3 = p4 ++ r4), f4, h⟩ := zds.step h
 obtain ⟨x5, r5, p5, (e5 : r4 = p5 ++ r5), f5, h⟩ := zds.step h
 obtain ⟨x6, r6, p6, (e6 : r5 = p6 ++ r6), f6, h⟩ := zds.step h
 obtain ⟨x7, r7, p7, (e7 : r6 = p7 ++ r7), f7, h⟩ := zds.step h
 obtain ⟨x8, r8, p8, (e8 : r7 = p8 ++ r8), f8, h⟩ := zds.step h
 obtain ⟨x9, r9, p9, (e9 : r8 = p9 ++ r9), f9, h⟩ := zds.step h
 obtain ⟨x10, r10, p10, (e10 : r9 = p10 ++ r10), f10, h⟩ := zds.step h
 obtain ⟨x11, r11, p11, (e11 : r10 = p11 ++ r11), f11, h⟩ := zds.step h
 obtain ⟨x12, r12, p12, (e12 : r11 = p12 ++ r12), f12, h⟩ := zds.step h
 obtain ⟨x13, r13, p13, (e13 : r12 = p13 ++ r13), f13, h⟩ := zds.step h
 obtain ⟨x14, r14, p14, (e14 : r13 = p14 ++ r14), f14, h⟩ := (z9 .i64).step h
 obtain ⟨x15, r15, p15, (e15 : r14 = p15 ++ r15), f15, h⟩ := (z9 .i64).step h
 cases h
 exact ⟨(p0 ++ (p1 ++ (p2 ++ (p3 ++ (p4 ++ (p5 ++ (p6 ++ (p7 ++ (p8 ++ (p9 ++ (p10 ++ (p11 ++ (p12 ++ (p13 ++ (p14 ++ p15))))))))))))))), by rw [e0, e1, e2, e3, e4, e5, e6, e7, e8, e9, e10, e11, e12, e13, e14, e15]; simp only [List.append_assoc], (f0.append (f1.append (f2.append (f3.append (f4.append (f5.append (f6.append (f7.append (f8.append (f9.append (f10.append (f11.append (f12.append (f13.append (f14.append f15)))))))))))))))⟩
theorem zu2 : Sp (U := U) zma zqc := fun l x r h => by
 unfold zma at h
 obtain ⟨x0, r0, p0, e0, f0, h⟩ := zy6.step h
 obtain ⟨x1, r1, p1, (e1 : r0 = p1 ++ r1), f1, h⟩ := z03.step h
 obtain ⟨x2, r2, p2, (e2 : r1 = p2 ++ r2), f2, h⟩ := (z9 .i64).step h
 cases h
 exact ⟨(p0 ++ (p1 ++ p2)), by rw [e0, e1, e2]; simp only [List.append_assoc], (f0.append (f1.append f2))⟩
theorem ztl : Sp (U := U) zlo zp0 := fun l x r h => by
 unfold zlo at h
 obtain ⟨x0, r0, p0, e0, f0, h⟩ := zva.step h
 obtain ⟨x1, r1, p1, (e1 : r0 = p1 ++ r1), f1, h⟩ := zy5.step h
 obtain ⟨x2, r2, p2, (e2 : r1 = p2 ++ r2), f2, h⟩ := (zjd (Ty.int .i64)).step h
 obtain ⟨x3, r3, p3, (e3 : r2 = p3 ++ r3), f3, h⟩ := (z9 .i64).step h
 cases h
 exact ⟨(p0 ++ (p1 ++ (p2 ++ p3))), by rw [e0, e1, e2, e3]; simp only [List.append_assoc], (f0.append (f1.append (f2.append f3)))⟩
theorem zuq : Sp (U := U) zo7 zxr := fun l x r h => by
 unfold zo7 at h
 obtain ⟨x0, r0, p0, e0, f0, h⟩ := zds.step h
 obtain ⟨x1, r1, p1, (e1 : r0 = p1 ++ r1), f1, h⟩ := (zjd (Ty.int .i64)).step h
 cases h
 exact ⟨(p0 ++ p1), by rw [e0, e1]; simp only [List.append_assoc], (f0.append f1)⟩
theorem zx2 : Sp (U := U) zof zs6 := fun l x r h => by
 unfold zof at h
 obtain ⟨x0, r0, p0, e0, f0, h⟩ := (z9 .i64).step h
 obtain ⟨x1, r1, p1, (e1 : r0 = p1 ++ r1), f1, h⟩ := zmc.step h
 obtain ⟨x2, r2, p2, (e2 : r1 = p2 ++ r2), f2, h⟩ := zds.step h
 cases h
 exact ⟨(p0 ++ (p1 ++ p2)), by rw [e0, e1, e2]; simp only [List.append_assoc], (f0.append (f1.append f2))⟩
theorem zw7 : Sp (U := U) znn zr3 := fun l x r h => by
 unfold znn at h
 obtain ⟨x0, r0, p0, e0, f0, h⟩ := zuq.step h
 obtain ⟨x1, r1, p1, (e1 : r0 = p1 ++ r1), f1, h⟩ := (zjd (Ty.int .i64)).step h
 cases h
 exact ⟨(p0 ++ p1), by rw [e0, e1]; simp only [List.append_assoc], (f0.append f1)⟩
theorem zvb : Sp (U := U) zsz z5w := fun l x r h => by
 unfold zsz at h
 obtain ⟨x0, r0, p0, e0, f0, h⟩ := (z9 .u64).step h
 obtain ⟨x1, r1, p1, (e1 : r0 = p1 ++ r1), f1, h⟩ := (z9 .u64).step h
 obtain ⟨x2, r2, p2, (e2 : r1 = p2 ++ r2), f2, h⟩ := (z9 .u64).step h
 obtain ⟨x3, r3, p3, (e3 : r2 = p3 ++ r3), f3, h⟩ := (z9 .u64).step h
 cases h
 exact ⟨(p0 ++ (p1 ++ (p2 ++ p3))), by rw [e0, e1, e2, e3]; simp only [List.append_assoc], (f0.append (f1.append (f2.append f3)))⟩
theorem zu1 : Sp (U := U) zl9 zqb := fun l x r h => by
 unfold zl9 at h
 obtain ⟨x0, r0, p0, e0, f0, h⟩ := zds.step h
 obtain ⟨x1, r1, p1, (e1 : r0 = p1 ++ r1), f1, h⟩ := zvb.step h
 obtain ⟨x2, r2, p2, (e2 : r1 = p2 ++ r2), f2, h⟩ := zvb.step h
 cases h
 exact ⟨(p0 ++ (p1 ++ p2)), by rw [e0, e1, e2]; simp only [List.append_assoc], (f0.append (f1.append f2))⟩
theorem sp : ∀ t : Ty, Sp (U := U) (rd t) (enc t)
 | .int k => z9 k
 | .bool => zds
 | .str => zpj
 | .nil => zadk
 | .sl t => zjd t
 | .st 0 => zx3
 | .st 1 => zse
 | .st 2 => zoa
 | .st 3 => z6g
 | .st 4 => znk
 | .st 5 => ztm
 | .st 6 => zmc
 | .st 7 => z02
 | .st 8 => zx5
 | .st 9 => z7u
 | .st 10 => z03
 | .st 11 => z4t
 | .st 12 => z2i
 | .st 13 => z2j
 | .st 14 => zx4
 | .st 15 => z2k
 | .st 16 => zva
 | .st 17 => z4s
 | .st 18 => zy6
 | .st 19 => zy5
 | .st 20 => z6f
 | .st 21 => zy7
 | .st 22 => z6e
 | .st 23 => zy4
 | .st 24 => zu2
 | .st 25 => ztl
 | .st 26 => zuq
 | .st 27 => zx2
 | .st 28 => zw7
 | .st 29 => zvb
 | .st 30 => zu1
 | .st (_ + 31) => fun l x r h => by cases h
theorem zaa5 : ∀ (t : Ty) (x : den t), (enc t x).length = szT t
 | .int _, _ => rfl
 | .bool, _ => rfl
 | .str, _ => rfl
 | .nil, _ => rfl
 | .sl _, _ => rfl
 | .st 0, _ => rfl
 | .st 1, _ => rfl
 | .st 2, _ => rfl
 | .st 3, _ => rfl
 | .st 4, _ => rfl
 | .st 5, _ => rfl
 | .st 6, _ => rfl
 | .st 7, _ => rfl
 | .st 8, _ => rfl
 | .st 9, _ => rfl
 | .st 10, _ => rfl
 | .st 11, _ => rfl
 | .st 12, _ => rfl
 | .st 13, _ => rfl
 | .st 14, _ => rfl
 | .st 15, _ => rfl
 | .st 16, _ => rfl
 | .st 17, _ => rfl
 | .st 18, _ => rfl
 | .st 19, _ => rfl
 | .st 20, _ => rfl
 | .st 21, _ => rfl
 | .st 22, _ => rfl
 | .st 23, _ => rfl
 | .st 24, _ => rfl
 | .st 25, _ => rfl
 | .st 26, _ => rfl
 | .st 27, _ => rfl
 | .st 28, _ => rfl
 | .st 29, _ => rfl
 | .st 30, _ => rfl
 | .st (_ + 31), _ => rfl
theorem zadv : ∀ t : Ty, 0 < szT t
 | .int _ => Nat.one_pos
 | .bool => Nat.one_pos
 | .str => Nat.one_pos
 | .nil => Nat.one_pos
 | .sl _ => Nat.one_pos
 | .st 0 => (by decide : 0 < 2)
 | .st 1 => (by decide : 0 < 4)
 | .st 2 => (by decide : 0 < 2)
 | .st 3 => (by decide : 0 < 3)
 | .st 4 => (by decide : 0 < 2)
 | .st 5 => (by decide : 0 < 3)
 | .st 6 => (by decide : 0 < 3)
 | .st 7 => (by decide : 0 < 2)
 | .st 8 => (by decide : 0 < 27)
 | .st 9 => (by decide : 0 < 4)
 | .st 10 => (by decide : 0 < 4)
 | .st 11 => (by decide : 0 < 7)
 | .st 12 => (by decide : 0 < 2)
 | .st 13 => (by decide : 0 < 10)
 | .st 14 => (by decide : 0 < 2)
 | .st 15 => (by decide : 0 < 4)
 | .st 16 => (by decide : 0 < 3)
 | .st 17 => (by decide : 0 < 4)
 | .st 18 => (by decide : 0 < 11)
 | .st 19 => (by decide : 0 < 8)
 | .st 20 => (by decide : 0 < 2)
 | .st 21 => (by decide : 0 < 2)
 | .st 22 => (by decide : 0 < 4)
 | .st 23 => (by decide : 0 < 16)
 | .st 24 => (by decide : 0 < 16)
 | .st 25 => (by decide : 0 < 13)
 | .st 26 => (by decide : 0 < 2)
 | .st 27 => (by decide : 0 < 5)
 | .st 28 => (by decide : 0 < 3)
 | .st 29 => (by decide : 0 < 4)
 | .st 30 => (by decide : 0 < 9)
 | .st (_ + 31) => Nat.one_pos
theorem zagu : ∀ (t : Ty) (x : den t), (enc t x).all (fzc (U := U)) = true
 | .int _, _ => rfl
 | .bool, _ => rfl
 | .str, _ => rfl
 | .nil, _ => rfl
 | .sl _, _ => rfl
 | .st 0, _ => rfl
 | .st 1, _ => rfl
 | .st 2, _ => rfl
 | .st 3, _ => rfl
 | .st 4, _ => rfl
 | .st 5, _ => rfl
 | .st 6, _ => rfl
 | .st 7, _ => rfl
 | .st 8, _ => rfl
 | .st 9, _ => rfl
 | .st 10, _ => rfl
 | .st 11, _ => rfl
 | .st 12, _ => rfl
 | .st 13, _ => rfl
 | .st 14, _ => rfl
 | .st 15, _ => rfl
 | .st 16, _ => rfl
 | .st 17, _ => rfl
 | .st 18, _ => rfl
 | .st 19, _ => rfl
 | .st 20, _ => rfl
 | .st 21, _ => rfl
 | .st 22, _ => rfl
 | .st 23, _ => rfl
 | .st 24, _ => rfl
 | .st 25, _ => rfl
 | .st 26, _ => rfl
 | .st 27, _ => rfl
 | .st 28, _ => rfl
 | .st 29, _ => rfl
 | .st 30, _ => rfl
 | .st (_ + 31), _ => rfl
theorem zach : ∀ t : Ty, zabe t = true → ∀ x : den t, (enc t x).all (z7v (U := U)) = true
 | .int _, _, _ => rfl
 | .bool, _, _ => rfl
 | .str, _, _ => rfl
 | .nil, _, _ => rfl
 | .sl _, h, _ => by cases h
 | .st 0, _, _ => rfl
 | .st 1, _, _ => rfl
 | .st 2, _, _ => rfl
 | .st 3, _, _ => rfl
 | .st 4, h, _ => by cases h
 | .st 5, _, _ => rfl
 | .st 6, _, _ => rfl
 | .st 7, _, _ => rfl
 | .st 8, _, _ => rfl
 | .st 9, _, _ => rfl
 | .st 10, h, _ => by cases h
 | .st 11, h, _ => by cases h
 | .st 12, _, _ => rfl
 | .st 13, _, _ => rfl
 | .st 14, h, _ => by cases h
 | .st 15, _, _ => rfl
 | .st 16, h, _ => by cases h
 | .st 17, h, _ => by cases h
 | .st 18, h, _ => by cases h
 | .st 19, h, _ => by cases h
 | .st 20, _, _ => rfl
 | .st 21, _, _ => rfl
 | .st 22, _, _ => rfl
 | .st 23, _, _ => rfl
 | .st 24, h, _ => by cases h
 | .st 25, h, _ => by cases h
 | .st 26, h, _ => by cases h
 | .st 27, _, _ => rfl
 | .st 28, h, _ => by cases h
 | .st 29, _, _ => rfl
 | .st 30, _, _ => rfl
 | .st (_ + 31), _, _ => rfl
theorem zady : ∀ t : Ty, aggT t = false → szT t = 1
 | .int _, _ => rfl
 | .bool, _ => rfl
 | .str, _ => rfl
 | .nil, _ => rfl
 | .sl _, _ => rfl
 | .st _, h => by cases h
theorem zl5 : ELaws En where
 sz := zaa5
 pos := zadv
 fz := fun t x c hc => zaan (z52 (zagu t x) hc)
 one := zady
 reify := fun t cs x h => by
  have h' : reify t cs = some x := h; unfold reify at h'; rw [Option.bind_eq_some_iff] at h'; obtain ⟨⟨y, r⟩, h1, h2⟩ := h'; cases r with
  | cons => cases h2
  | nil =>
   cases h2; obtain ⟨p, e, f⟩ := sp t cs _ _ h1; rw [List.append_nil] at e; subst e; exact ⟨f.length.trans (zaa5 t _), fun j c c' g1 g2 => f.get j c c' g1 g2⟩
 flat := fun t ht x c hc => z4w (z52 (zach t ht x) hc)
 slAgg := fun _ => rfl
 slEnc := fun _ _ => rfl
 ofTo := fun _ _ => rfl
 u8sz := rfl
 u8 := fun x => ⟨x, rfl⟩
 toInts := fun xs i x n h1 h2 => by cases h2; exact h1
 toIntsLen := fun _ => rfl
 ofInts := fun l i n h => ⟨n, h, rfl⟩
 ofIntsLen := fun _ => rfl
theorem zw3 {O : List (Nat × Ct U)} {X : List (Nat × Nat)} {J : List (Nat × Amx.Spec U × List Ty)} {pre : List (Nat × List Nat)} {lits ro pk bj : List Nat} : CLaws (zso O X J pre lits ro pk bj) :=
 zaav zl5 (l := zaba) rfl (by kernel_rfl)
def ctv (ps : List (Md U)) (res outs : List Ty) (fr : List Nat) (ts : List Ty) (f : Fnc U ts (PT U (res ++ outs))) : Ct U := { params := ps, results := res, outs := outs, fresh := fr, fn := app U ts f }
def cvv (res ts : List Ty) (f : Fnc U ts (PT U (res ++ []))) : Ct U := ctv (ts.map .val) res [] [] ts f
def K0 : Ctx U := zso [] [] [] [] [] [] [] []
@[reducible] def Kq : Type := Kp K0
structure Cf where
 X : List (Nat × Nat) := []
 J : List (Nat × Amx.Spec U × List Ty) := []
 pre : List (Nat × List Nat) := []
 lits : List Nat := []
 ro : List Nat := []
 pk : List Nat := []
 bj : List Nat := []
def cxo (l : List Kq) (c : Cf) : Ctx U := zso (Osk l) c.X c.J c.pre c.lits c.ro c.pk c.bj
theorem go (l : List Kq) (c : Cf) {f : FuncId} {fn : Func} {ps : List (Md U)} {res outs : List Ty} {fr : List Nat} {ts : List Ty} {F : Fnc U ts (PT U (res ++ outs))} (L : List (Nat × Cut U (PT U ((ctv ps res outs fr ts F).results ++ (ctv ps res outs fr ts F).outs)))) (hf : Proofs.Tryz.prog.funcs[f]? = some fn) (hn : ((fn.name == "runtime.NumGoroutine") || !fn.body.isSome) = false := by kernel_rfl)
 (hok : zzx (cxo l c) (ctv ps res outs fr ts F) = fun _ => true := by kernel_rfl) (hr : (cur ts (z94 (cxo l c) fn (ctv ps res outs fr ts F) (pick L)) : Fnc U ts (PT U (res ++ outs))) = F := by kernel_rfl) (hL : Ls (cxo l c) fn (ctv ps res outs fr ts F) (pick L) L := by exact trivial) (hX : ∀ p ∈ c.X, zwn Proofs.Tryz.prog p := by exact zc8) : zij K0 f (ctv ps res outs fr ts F) := by
 rw [Bool.or_eq_false_iff] at hn
 exact zij.ctx (C := cxo l c) (C' := K0) rfl rfl rfl (z8u (C := cxo l c) zw3 (zaf3 (C := cxo l c) (C0 := K0) (l := l) rfl rfl rfl rfl) (zu5 (l := c.X) rfl hX) hf hn.1 (by simpa using hn.2) (zad5 rfl hL) (fun y => congrFun hok y) (zacm hr))
theorem zaez : zwn Proofs.Tryz.prog (331, 2) := zabi Proofs.Tryz.func331 (by kernel_rfl) (by kernel_rfl) (by kernel_rfl) (by kernel_rfl)
theorem zaa1 : zwn Proofs.Tryz.prog (347, 0) := z7n Proofs.Tryz.func347 (by kernel_rfl) (by kernel_rfl) (by kernel_rfl) (by kernel_rfl)
theorem zaey : zwn Proofs.Tryz.prog (355, 1) := z7m Proofs.Tryz.func355 (by kernel_rfl) (by kernel_rfl) (by kernel_rfl) (by kernel_rfl)
end
end Go.Proofs.YtppbpnknfigboaaGreatDoor.M
