/- The program's types, and their cells. -/
import Derived.Test.YtppbpnknfigboaaGreatDoorA3
import Derived.Test.YtppbpnknfigboaaGreatDoorShelf
import Derived.KernelRfl
namespace Go.Proofs.YtppbpnknfigboaaGreatDoor.M
open Go Go.Amx
set_option linter.unusedVariables false
set_option maxRecDepth 100000
noncomputable section
structure zP where
 fields : Int
 types : Int
structure yB where
 x : Int
 y : Int
 signed : Bool
 code : Int
structure zV where
 msg : ByteArray
 addr : Int
structure zJ where
 Registers : Int
 yA : Bool
 zX : Bool
structure Storage where
 Bytes : ByteArray
 Tags : List Bool
structure zN where
 Based : Bool
 Pointer : Int
 Offset : Int
structure DataType where
 Kind : Int
 Length : Int
 Scale : Int
structure Number where
 N : Int
 Scale : Int
structure zB where
 Op : Int
 R : Int
 A : Int
 B : Int
 zK : Int
 Place : zN
 From : zN
 zF : DataType
 Second : DataType
 Half : Bool
 zL : Bool
 Number : Number
 Text : ByteArray
 Other : ByteArray
 Mask : Int
 Target : Int
 Pointer : Int
 Source : Int
structure zS where
 From : Int
 To : Int
 Exception : Int
 Handler : Int
structure zG where
 Storage : Storage
 zC : List zB
 zO : List zS
structure zZ where
 Lines : List ByteArray
 Status : Int
 Exception : Int
 Marks : Int
 Steps : Int
 Storage : Storage
structure Value where
 N : Int
 S : ByteArray
structure yD where
 Name : ByteArray
 Kind : Int
 zF : DataType
 Value : Value
 Base : ByteArray
 Offset : Int
 Target : Int
structure zW where
 Op : Int
 Args : List Int
structure yE where
 From : Int
 To : Int
 Exception : Int
 Handler : Int
structure yG where
 yK : List yD
 zC : List zW
 yL : List yE
structure yH where
 Lines : List ByteArray
 Status : Int
 Exception : Int
 Steps : Int
structure zA where
 Registers : List Number
 Condition : Int
 Storage : Storage
 At : Int
 Stack : List Int
 Lines : List ByteArray
 Status : Int
 Exception : Int
 Marks : Int
 Steps : Int
structure yC where
 Storage : Storage
 At : Int
 Stack : List Int
 Lines : List ByteArray
 Status : Int
 Exception : Int
 Steps : Int
structure yI where
 Part : Int
 Index : Int
structure Address where
 zY : Int
 Offset : Int
structure Pointer where
 Kind : Int
 Address : Address
 Authority : Int
structure zM where
 R : Bool
 A : Bool
 B : Bool
 Place : Bool
 From : Bool
 Half : Bool
 Number : Bool
 zK : Bool
 Mask : Bool
 Target : Bool
 Text : Bool
 Other : Bool
 Pointer : Bool
 Source : Bool
 zF : Int
 Second : Int
structure zD where
 zA : zA
 code : zG
 raised : Int
structure yF where
 yG : yG
 yC : yC
 layout : List Int
 raised : Int
structure zI where
 Below : Bool
 zT : List Int
structure zU where
 Op : Int
 zF : DataType
 Half : Bool
structure zR where
 Top : zI
 yJ : List Int
structure zH where
 e0 : Int
 e1 : Int
 e2 : Int
 e3 : Int
structure zQ where
 below : Bool
 amount : zH
 division : zH
inductive Ty where
 | int (k : IntKind)
 | bool
 | str
 | nil
 | sl (t : Ty)
 | st (n : Nat)
@[reducible] def z50 : Nat → Type
 | 0 => zP
 | 1 => yB
 | 2 => zV
 | 3 => zJ
 | 4 => Storage
 | 5 => zN
 | 6 => DataType
 | 7 => Number
 | 8 => zB
 | 9 => zS
 | 10 => zG
 | 11 => zZ
 | 12 => Value
 | 13 => yD
 | 14 => zW
 | 15 => yE
 | 16 => yG
 | 17 => yH
 | 18 => zA
 | 19 => yC
 | 20 => yI
 | 21 => Address
 | 22 => Pointer
 | 23 => zM
 | 24 => zD
 | 25 => yF
 | 26 => zI
 | 27 => zU
 | 28 => zR
 | 29 => zH
 | 30 => zQ
 | _ + 31 => Unit
@[reducible] def den : Ty → Type
 | .int _ => Int
 | .bool => Bool
 | .str => ByteArray
 | .nil => Unit
 | .sl t => List (den t)
 | .st n => z50 n
def eqTy : (a b : Ty) → Option (PLift (a = b))
 | .int j, .int k => if h : j = k then some ⟨by rw [h]⟩ else none
 | .bool, .bool => some ⟨rfl⟩
 | .str, .str => some ⟨rfl⟩
 | .nil, .nil => some ⟨rfl⟩
 | .sl a, .sl b => match eqTy a b with
  | some ⟨h⟩ => some ⟨by rw [h]⟩
  | none => none
 | .st i, .st j => if h : i = j then some ⟨by rw [h]⟩ else none
 | _, _ => none
@[reducible] def U : Uni := { Ty := Ty, den := den, eqTy := eqTy }
@[reducible] def T6 : Ty := Ty.int .i64
def w6 (n : Int) : Int := IntKind.wrap .i64 n
@[reducible] def Ty.zP : Ty := .st 0
@[reducible] def Ty.yB : Ty := .st 1
@[reducible] def Ty.zV : Ty := .st 2
@[reducible] def Ty.zJ : Ty := .st 3
@[reducible] def Ty.Storage : Ty := .st 4
@[reducible] def Ty.zN : Ty := .st 5
@[reducible] def Ty.DataType : Ty := .st 6
@[reducible] def Ty.Number : Ty := .st 7
@[reducible] def Ty.zB : Ty := .st 8
@[reducible] def Ty.zS : Ty := .st 9
@[reducible] def Ty.zG : Ty := .st 10
@[reducible] def Ty.zZ : Ty := .st 11
@[reducible] def Ty.Value : Ty := .st 12
@[reducible] def Ty.yD : Ty := .st 13
@[reducible] def Ty.zW : Ty := .st 14
@[reducible] def Ty.yE : Ty := .st 15
@[reducible] def Ty.yG : Ty := .st 16
@[reducible] def Ty.yH : Ty := .st 17
@[reducible] def Ty.zA : Ty := .st 18
@[reducible] def Ty.yC : Ty := .st 19
@[reducible] def Ty.yI : Ty := .st 20
@[reducible] def Ty.Address : Ty := .st 21
@[reducible] def Ty.Pointer : Ty := .st 22
@[reducible] def Ty.zM : Ty := .st 23
@[reducible] def Ty.zD : Ty := .st 24
@[reducible] def Ty.yF : Ty := .st 25
@[reducible] def Ty.zI : Ty := .st 26
@[reducible] def Ty.zU : Ty := .st 27
@[reducible] def Ty.zR : Ty := .st 28
@[reducible] def Ty.zH : Ty := .st 29
@[reducible] def Ty.zQ : Ty := .st 30
def zbk (k : IntKind) : List (AV U) → Option (Int × List (AV U))
 | .sc (.int k' n) :: l => if k = k' then some (n, l) else none
 | _ => none
def zf2 : List (AV U) → Option (Bool × List (AV U))
 | .sc (.bool b) :: l => some (b, l)
 | _ => none
def zsm : List (AV U) → Option (ByteArray × List (AV U))
 | .sc (.string s) :: l => some (s, l)
 | _ => none
def z99 : List (AV U) → Option (Unit × List (AV U))
 | .sc (.slice none 0 0) :: l => some ((), l)
 | _ => none
def rSl (t : Ty) : List (AV U) → Option (List (den t) × List (AV U))
 | .lst t' xs :: l => (U.eqTy t' t).map fun e => (zzx e xs, l)
 | .sc (.slice none 0 0) :: l => some ([], l)
 | _ => none
def zov (l : List (AV U)) : Option (zP × List (AV U)) := (zbk .i64 l).bind fun x0 => (zbk .i64 x0.2).bind fun x1 => some (⟨x0.1, x1.1⟩, x1.2)
def zk5 (l : List (AV U)) : Option (yB × List (AV U)) := (zbk .i64 l).bind fun x0 => (zbk .i64 x0.2).bind fun x1 => (zf2 x1.2).bind fun x2 => (zbk .u8 x2.2).bind fun x3 => some (⟨x0.1, x1.1, x2.1, x3.1⟩, x3.2)
def zia (l : List (AV U)) : Option (zV × List (AV U)) := (zsm l).bind fun x0 => (zbk .u64 x0.2).bind fun x1 => some (⟨x0.1, x1.1⟩, x1.2)
def zx8 (l : List (AV U)) : Option (zJ × List (AV U)) := (zbk .i64 l).bind fun x0 => (zf2 x0.2).bind fun x1 => (zf2 x1.2).bind fun x2 => some (⟨x0.1, x1.1, x2.1⟩, x2.2)
def znj (l : List (AV U)) : Option (Storage × List (AV U)) := (zsm l).bind fun x0 => (rSl Ty.bool x0.2).bind fun x1 => some (⟨x0.1, x1.1⟩, x1.2)
def zra (l : List (AV U)) : Option (zN × List (AV U)) := (zf2 l).bind fun x0 => (zbk .i64 x0.2).bind fun x1 => (zbk .i64 x1.2).bind fun x2 => some (⟨x0.1, x1.1, x2.1⟩, x2.2)
def zl5 (l : List (AV U)) : Option (DataType × List (AV U)) := (zbk .i64 l).bind fun x0 => (zbk .i64 x0.2).bind fun x1 => (zbk .i64 x1.2).bind fun x2 => some (⟨x0.1, x1.1, x2.1⟩, x2.2)
def zwj (l : List (AV U)) : Option (Number × List (AV U)) := (zbk .i64 l).bind fun x0 => (zbk .i64 x0.2).bind fun x1 => some (⟨x0.1, x1.1⟩, x1.2)
def zoz (l : List (AV U)) : Option (zB × List (AV U)) := (zbk .i64 l).bind fun x0 => (zbk .i64 x0.2).bind fun x1 => (zbk .i64 x1.2).bind fun x2 => (zbk .i64 x2.2).bind fun x3 => (zbk .i64 x3.2).bind fun x4 => (zra x4.2).bind fun x5 => (zra x5.2).bind fun x6 => (zl5 x6.2).bind fun x7 => (zl5 x7.2).bind fun x8 => (zf2 x8.2).bind fun x9 => (zf2 x9.2).bind fun x10 => (zwj x10.2).bind fun x11 => (zsm x11.2).bind fun x12 => (zsm x12.2).bind fun x13 => (zbk .i64 x13.2).bind fun x14 => (zbk .i64 x14.2).bind fun x15 => (zbk .i64 x15.2).bind fun x16 => (zbk .i64 x16.2).bind fun x17 => some (⟨x0.1, x1.1, x2.1, x3.1, x4.1, x5.1, x6.1, x7.1, x8.1, x9.1, x10.1, x11.1, x12.1, x13.1, x14.1, x15.1, x16.1, x17.1⟩, x17.2)
def zz9 (l : List (AV U)) : Option (zS × List (AV U)) := (zbk .i64 l).bind fun x0 => (zbk .i64 x0.2).bind fun x1 => (zbk .i64 x1.2).bind fun x2 => (zbk .i64 x2.2).bind fun x3 => some (⟨x0.1, x1.1, x2.1, x3.1⟩, x3.2)
def zwk (l : List (AV U)) : Option (zG × List (AV U)) := (znj l).bind fun x0 => (rSl Ty.zB x0.2).bind fun x1 => (rSl Ty.zS x1.2).bind fun x2 => some (⟨x0.1, x1.1, x2.1⟩, x2.2)
def zvi (l : List (AV U)) : Option (zZ × List (AV U)) := (rSl Ty.str l).bind fun x0 => (zbk .i64 x0.2).bind fun x1 => (zbk .i64 x1.2).bind fun x2 => (zbk .i64 x2.2).bind fun x3 => (zbk .i64 x3.2).bind fun x4 => (znj x4.2).bind fun x5 => some (⟨x0.1, x1.1, x2.1, x3.1, x4.1, x5.1⟩, x5.2)
def zzb (l : List (AV U)) : Option (Value × List (AV U)) := (zbk .i64 l).bind fun x0 => (zsm x0.2).bind fun x1 => some (⟨x0.1, x1.1⟩, x1.2)
def zts (l : List (AV U)) : Option (yD × List (AV U)) := (zsm l).bind fun x0 => (zbk .i64 x0.2).bind fun x1 => (zl5 x1.2).bind fun x2 => (zzb x2.2).bind fun x3 => (zsm x3.2).bind fun x4 => (zbk .i64 x4.2).bind fun x5 => (zbk .i64 x5.2).bind fun x6 => some (⟨x0.1, x1.1, x2.1, x3.1, x4.1, x5.1, x6.1⟩, x6.2)
def zoy (l : List (AV U)) : Option (zW × List (AV U)) := (zbk .i64 l).bind fun x0 => (rSl (Ty.int .i64) x0.2).bind fun x1 => some (⟨x0.1, x1.1⟩, x1.2)
def ztt (l : List (AV U)) : Option (yE × List (AV U)) := (zbk .i64 l).bind fun x0 => (zbk .i64 x0.2).bind fun x1 => (zbk .i64 x1.2).bind fun x2 => (zbk .i64 x2.2).bind fun x3 => some (⟨x0.1, x1.1, x2.1, x3.1⟩, x3.2)
def zqp (l : List (AV U)) : Option (yG × List (AV U)) := (rSl Ty.yD l).bind fun x0 => (rSl Ty.zW x0.2).bind fun x1 => (rSl Ty.yE x1.2).bind fun x2 => some (⟨x0.1, x1.1, x2.1⟩, x2.2)
def zvh (l : List (AV U)) : Option (yH × List (AV U)) := (rSl Ty.str l).bind fun x0 => (zbk .i64 x0.2).bind fun x1 => (zbk .i64 x1.2).bind fun x2 => (zbk .i64 x2.2).bind fun x3 => some (⟨x0.1, x1.1, x2.1, x3.1⟩, x3.2)
def ztu (l : List (AV U)) : Option (zA × List (AV U)) := (rSl Ty.Number l).bind fun x0 => (zbk .i64 x0.2).bind fun x1 => (znj x1.2).bind fun x2 => (zbk .i64 x2.2).bind fun x3 => (rSl (Ty.int .i64) x3.2).bind fun x4 => (rSl Ty.str x4.2).bind fun x5 => (zbk .i64 x5.2).bind fun x6 => (zbk .i64 x6.2).bind fun x7 => (zbk .i64 x7.2).bind fun x8 => (zbk .i64 x8.2).bind fun x9 => some (⟨x0.1, x1.1, x2.1, x3.1, x4.1, x5.1, x6.1, x7.1, x8.1, x9.1⟩, x9.2)
def ztr (l : List (AV U)) : Option (yC × List (AV U)) := (znj l).bind fun x0 => (zbk .i64 x0.2).bind fun x1 => (rSl (Ty.int .i64) x1.2).bind fun x2 => (rSl Ty.str x2.2).bind fun x3 => (zbk .i64 x3.2).bind fun x4 => (zbk .i64 x4.2).bind fun x5 => (zbk .i64 x5.2).bind fun x6 => some (⟨x0.1, x1.1, x2.1, x3.1, x4.1, x5.1, x6.1⟩, x6.2)
def zx7 (l : List (AV U)) : Option (yI × List (AV U)) := (zbk .i64 l).bind fun x0 => (zbk .i64 x0.2).bind fun x1 => some (⟨x0.1, x1.1⟩, x1.2)
def ztv (l : List (AV U)) : Option (Address × List (AV U)) := (zbk .i64 l).bind fun x0 => (zbk .i64 x0.2).bind fun x1 => some (⟨x0.1, x1.1⟩, x1.2)
def zx6 (l : List (AV U)) : Option (Pointer × List (AV U)) := (zbk .i64 l).bind fun x0 => (ztv x0.2).bind fun x1 => (zbk .i64 x1.2).bind fun x2 => some (⟨x0.1, x1.1, x2.1⟩, x2.2)
def zqe (l : List (AV U)) : Option (zM × List (AV U)) := (zf2 l).bind fun x0 => (zf2 x0.2).bind fun x1 => (zf2 x1.2).bind fun x2 => (zf2 x2.2).bind fun x3 => (zf2 x3.2).bind fun x4 => (zf2 x4.2).bind fun x5 => (zf2 x5.2).bind fun x6 => (zf2 x6.2).bind fun x7 => (zf2 x7.2).bind fun x8 => (zf2 x8.2).bind fun x9 => (zf2 x9.2).bind fun x10 => (zf2 x10.2).bind fun x11 => (zf2 x11.2).bind fun x12 => (zf2 x12.2).bind fun x13 => (zbk .i64 x13.2).bind fun x14 => (zbk .i64 x14.2).bind fun x15 => some (⟨x0.1, x1.1, x2.1, x3.1, x4.1, x5.1, x6.1, x7.1, x8.1, x9.1, x10.1, x11.1, x12.1, x13.1, x14.1, x15.1⟩, x15.2)
def zmu (l : List (AV U)) : Option (zD × List (AV U)) := (ztu l).bind fun x0 => (zwk x0.2).bind fun x1 => (zbk .i64 x1.2).bind fun x2 => some (⟨x0.1, x1.1, x2.1⟩, x2.2)
def zl1 (l : List (AV U)) : Option (yF × List (AV U)) := (zqp l).bind fun x0 => (ztr x0.2).bind fun x1 => (rSl (Ty.int .i64) x1.2).bind fun x2 => (zbk .i64 x2.2).bind fun x3 => some (⟨x0.1, x1.1, x2.1, x3.1⟩, x3.2)
def zpj (l : List (AV U)) : Option (zI × List (AV U)) := (zf2 l).bind fun x0 => (rSl (Ty.int .i64) x0.2).bind fun x1 => some (⟨x0.1, x1.1⟩, x1.2)
def zos (l : List (AV U)) : Option (zU × List (AV U)) := (zbk .i64 l).bind fun x0 => (zl5 x0.2).bind fun x1 => (zf2 x1.2).bind fun x2 => some (⟨x0.1, x1.1, x2.1⟩, x2.2)
def zn7 (l : List (AV U)) : Option (zR × List (AV U)) := (zpj l).bind fun x0 => (rSl (Ty.int .i64) x0.2).bind fun x1 => some (⟨x0.1, x1.1⟩, x1.2)
def zsx (l : List (AV U)) : Option (zH × List (AV U)) := (zbk .u64 l).bind fun x0 => (zbk .u64 x0.2).bind fun x1 => (zbk .u64 x1.2).bind fun x2 => (zbk .u64 x2.2).bind fun x3 => some (⟨x0.1, x1.1, x2.1, x3.1⟩, x3.2)
def zmt (l : List (AV U)) : Option (zQ × List (AV U)) := (zf2 l).bind fun x0 => (zsx x0.2).bind fun x1 => (zsx x1.2).bind fun x2 => some (⟨x0.1, x1.1, x2.1⟩, x2.2)
def zs4 (x : zP) : List (AV U) := [.sc (.int .i64 x.fields), .sc (.int .i64 x.types)]
def zoh (x : yB) : List (AV U) := [.sc (.int .i64 x.x), .sc (.int .i64 x.y), .sc (.bool x.signed), .sc (.int .u8 x.code)]
def zk2 (x : zV) : List (AV U) := [.sc (.string x.msg), .sc (.int .u64 x.addr)]
def z3y (x : zJ) : List (AV U) := [.sc (.int .i64 x.Registers), .sc (.bool x.yA), .sc (.bool x.zX)]
def z3t (x : Storage) : List (AV U) := [.sc (.string x.Bytes), .lst Ty.bool x.Tags]
def z3x (x : zN) : List (AV U) := [.sc (.bool x.Based), .sc (.int .i64 x.Pointer), .sc (.int .i64 x.Offset)]
def z1c (x : DataType) : List (AV U) := [.sc (.int .i64 x.Kind), .sc (.int .i64 x.Length), .sc (.int .i64 x.Scale)]
def z5i (x : Number) : List (AV U) := [.sc (.int .i64 x.N), .sc (.int .i64 x.Scale)]
def zjc (x : zB) : List (AV U) := [.sc (.int .i64 x.Op), .sc (.int .i64 x.R), .sc (.int .i64 x.A), .sc (.int .i64 x.B), .sc (.int .i64 x.zK), .sc (.bool x.Place.Based), .sc (.int .i64 x.Place.Pointer), .sc (.int .i64 x.Place.Offset), .sc (.bool x.From.Based), .sc (.int .i64 x.From.Pointer), .sc (.int .i64 x.From.Offset), .sc (.int .i64 x.zF.Kind), .sc (.int .i64 x.zF.Length), .sc (.int .i64 x.zF.Scale), .sc (.int .i64 x.Second.Kind), .sc (.int .i64 x.Second.Length), .sc (.int .i64 x.Second.Scale), .sc (.bool x.Half), .sc (.bool x.zL), .sc (.int .i64 x.Number.N), .sc (.int .i64 x.Number.Scale), .sc (.string x.Text), .sc (.string x.Other), .sc (.int .i64 x.Mask), .sc (.int .i64 x.Target), .sc (.int .i64 x.Pointer), .sc (.int .i64 x.Source)]
def z5j (x : zS) : List (AV U) := [.sc (.int .i64 x.From), .sc (.int .i64 x.To), .sc (.int .i64 x.Exception), .sc (.int .i64 x.Handler)]
def zll (x : zG) : List (AV U) := [.sc (.string x.Storage.Bytes), .lst Ty.bool x.Storage.Tags, .lst Ty.zB x.zC, .lst Ty.zS x.zO]
def z1b (x : zZ) : List (AV U) := [.lst Ty.str x.Lines, .sc (.int .i64 x.Status), .sc (.int .i64 x.Exception), .sc (.int .i64 x.Marks), .sc (.int .i64 x.Steps), .sc (.string x.Storage.Bytes), .lst Ty.bool x.Storage.Tags]
def z80 (x : Value) : List (AV U) := [.sc (.int .i64 x.N), .sc (.string x.S)]
def zzr (x : yD) : List (AV U) := [.sc (.string x.Name), .sc (.int .i64 x.Kind), .sc (.int .i64 x.zF.Kind), .sc (.int .i64 x.zF.Length), .sc (.int .i64 x.zF.Scale), .sc (.int .i64 x.Value.N), .sc (.string x.Value.S), .sc (.string x.Base), .sc (.int .i64 x.Offset), .sc (.int .i64 x.Target)]
def zs6 (x : zW) : List (AV U) := [.sc (.int .i64 x.Op), .lst (Ty.int .i64) x.Args]
def zzs (x : yE) : List (AV U) := [.sc (.int .i64 x.From), .sc (.int .i64 x.To), .sc (.int .i64 x.Exception), .sc (.int .i64 x.Handler)]
def zzq (x : yG) : List (AV U) := [.lst Ty.yD x.yK, .lst Ty.zW x.zC, .lst Ty.yE x.yL]
def z1a (x : yH) : List (AV U) := [.lst Ty.str x.Lines, .sc (.int .i64 x.Status), .sc (.int .i64 x.Exception), .sc (.int .i64 x.Steps)]
def zis (x : zA) : List (AV U) := [.lst Ty.Number x.Registers, .sc (.int .i64 x.Condition), .sc (.string x.Storage.Bytes), .lst Ty.bool x.Storage.Tags, .sc (.int .i64 x.At), .lst (Ty.int .i64) x.Stack, .lst Ty.str x.Lines, .sc (.int .i64 x.Status), .sc (.int .i64 x.Exception), .sc (.int .i64 x.Marks), .sc (.int .i64 x.Steps)]
def z3v (x : yC) : List (AV U) := [.sc (.string x.Storage.Bytes), .lst Ty.bool x.Storage.Tags, .sc (.int .i64 x.At), .lst (Ty.int .i64) x.Stack, .lst Ty.str x.Lines, .sc (.int .i64 x.Status), .sc (.int .i64 x.Exception), .sc (.int .i64 x.Steps)]
def z3w (x : yI) : List (AV U) := [.sc (.int .i64 x.Part), .sc (.int .i64 x.Index)]
def z3z (x : Address) : List (AV U) := [.sc (.int .i64 x.zY), .sc (.int .i64 x.Offset)]
def z3u (x : Pointer) : List (AV U) := [.sc (.int .i64 x.Kind), .sc (.int .i64 x.Address.zY), .sc (.int .i64 x.Address.Offset), .sc (.int .i64 x.Authority)]
def zuo (x : zM) : List (AV U) := [.sc (.bool x.R), .sc (.bool x.A), .sc (.bool x.B), .sc (.bool x.Place), .sc (.bool x.From), .sc (.bool x.Half), .sc (.bool x.Number), .sc (.bool x.zK), .sc (.bool x.Mask), .sc (.bool x.Target), .sc (.bool x.Text), .sc (.bool x.Other), .sc (.bool x.Pointer), .sc (.bool x.Source), .sc (.int .i64 x.zF), .sc (.int .i64 x.Second)]
def zqi (x : zD) : List (AV U) := [.lst Ty.Number x.zA.Registers, .sc (.int .i64 x.zA.Condition), .sc (.string x.zA.Storage.Bytes), .lst Ty.bool x.zA.Storage.Tags, .sc (.int .i64 x.zA.At), .lst (Ty.int .i64) x.zA.Stack, .lst Ty.str x.zA.Lines, .sc (.int .i64 x.zA.Status), .sc (.int .i64 x.zA.Exception), .sc (.int .i64 x.zA.Marks), .sc (.int .i64 x.zA.Steps), .sc (.string x.code.Storage.Bytes), .lst Ty.bool x.code.Storage.Tags, .lst Ty.zB x.code.zC, .lst Ty.zS x.code.zO, .sc (.int .i64 x.raised)]
def zqb (x : yF) : List (AV U) := [.lst Ty.yD x.yG.yK, .lst Ty.zW x.yG.zC, .lst Ty.yE x.yG.yL, .sc (.string x.yC.Storage.Bytes), .lst Ty.bool x.yC.Storage.Tags, .sc (.int .i64 x.yC.At), .lst (Ty.int .i64) x.yC.Stack, .lst Ty.str x.yC.Lines, .sc (.int .i64 x.yC.Status), .sc (.int .i64 x.yC.Exception), .sc (.int .i64 x.yC.Steps), .lst (Ty.int .i64) x.layout, .sc (.int .i64 x.raised)]
def zxg (x : zI) : List (AV U) := [.sc (.bool x.Below), .lst (Ty.int .i64) x.zT]
def zs3 (x : zU) : List (AV U) := [.sc (.int .i64 x.Op), .sc (.int .i64 x.zF.Kind), .sc (.int .i64 x.zF.Length), .sc (.int .i64 x.zF.Scale), .sc (.bool x.Half)]
def zr5 (x : zR) : List (AV U) := [.sc (.bool x.Top.Below), .lst (Ty.int .i64) x.Top.zT, .lst (Ty.int .i64) x.yJ]
def z5k (x : zH) : List (AV U) := [.sc (.int .u64 x.e0), .sc (.int .u64 x.e1), .sc (.int .u64 x.e2), .sc (.int .u64 x.e3)]
def zqh (x : zQ) : List (AV U) := [.sc (.bool x.below), .sc (.int .u64 x.amount.e0), .sc (.int .u64 x.amount.e1), .sc (.int .u64 x.amount.e2), .sc (.int .u64 x.amount.e3), .sc (.int .u64 x.division.e0), .sc (.int .u64 x.division.e1), .sc (.int .u64 x.division.e2), .sc (.int .u64 x.division.e3)]
def zahx : (n : Nat) → z50 n → List (AV U)
 | 0, x => zs4 x
 | 1, x => zoh x
 | 2, x => zk2 x
 | 3, x => z3y x
 | 4, x => z3t x
 | 5, x => z3x x
 | 6, x => z1c x
 | 7, x => z5i x
 | 8, x => zjc x
 | 9, x => z5j x
 | 10, x => zll x
 | 11, x => z1b x
 | 12, x => z80 x
 | 13, x => zzr x
 | 14, x => zs6 x
 | 15, x => zzs x
 | 16, x => zzq x
 | 17, x => z1a x
 | 18, x => zis x
 | 19, x => z3v x
 | 20, x => z3w x
 | 21, x => z3z x
 | 22, x => z3u x
 | 23, x => zuo x
 | 24, x => zqi x
 | 25, x => zqb x
 | 26, x => zxg x
 | 27, x => zs3 x
 | 28, x => zr5 x
 | 29, x => z5k x
 | 30, x => zqh x
 | _ + 31, _ => [.sc (.bool true)]
def rdSt : (n : Nat) → List (AV U) → Option (z50 n × List (AV U))
 | 0, l => zov l
 | 1, l => zk5 l
 | 2, l => zia l
 | 3, l => zx8 l
 | 4, l => znj l
 | 5, l => zra l
 | 6, l => zl5 l
 | 7, l => zwj l
 | 8, l => zoz l
 | 9, l => zz9 l
 | 10, l => zwk l
 | 11, l => zvi l
 | 12, l => zzb l
 | 13, l => zts l
 | 14, l => zoy l
 | 15, l => ztt l
 | 16, l => zqp l
 | 17, l => zvh l
 | 18, l => ztu l
 | 19, l => ztr l
 | 20, l => zx7 l
 | 21, l => ztv l
 | 22, l => zx6 l
 | 23, l => zqe l
 | 24, l => zmu l
 | 25, l => zl1 l
 | 26, l => zpj l
 | 27, l => zos l
 | 28, l => zn7 l
 | 29, l => zsx l
 | 30, l => zmt l
 | _ + 31, _ => none
def enc : (t : Ty) → den t → List (AV U)
 | .int k, n => [.sc (.int k n)]
 | .bool, b => [.sc (.bool b)]
 | .str, s => [.sc (.string s)]
 | .nil, _ => [.sc (.slice none 0 0)]
 | .sl t, xs => [.lst t xs]
 | .st n, x => zahx n x
def rd : (t : Ty) → List (AV U) → Option (den t × List (AV U))
 | .int k, l => zbk k l
 | .bool, l => zf2 l
 | .str, l => zsm l
 | .nil, l => z99 l
 | .sl t, l => rSl t l
 | .st n, l => rdSt n l
def reify (t : Ty) (l : List (AV U)) : Option (den t) := (rd t l).bind fun r => match r.2 with
 | [] => some r.1
 | _ => none
def szSt : Nat → Nat
 | 0 => 2
 | 1 => 4
 | 2 => 2
 | 3 => 3
 | 4 => 2
 | 5 => 3
 | 6 => 3
 | 7 => 2
 | 8 => 27
 | 9 => 4
 | 10 => 4
 | 11 => 7
 | 12 => 2
 | 13 => 10
 | 14 => 2
 | 15 => 4
 | 16 => 3
 | 17 => 4
 | 18 => 11
 | 19 => 8
 | 20 => 2
 | 21 => 2
 | 22 => 4
 | 23 => 16
 | 24 => 16
 | 25 => 13
 | 26 => 2
 | 27 => 5
 | 28 => 3
 | 29 => 4
 | 30 => 9
 | _ + 31 => 1
def zaex : Nat → Bool
 | 0 => true
 | 1 => true
 | 2 => true
 | 3 => true
 | 4 => false
 | 5 => true
 | 6 => true
 | 7 => true
 | 8 => true
 | 9 => true
 | 10 => false
 | 11 => false
 | 12 => true
 | 13 => true
 | 14 => false
 | 15 => true
 | 16 => false
 | 17 => false
 | 18 => false
 | 19 => false
 | 20 => true
 | 21 => true
 | 22 => true
 | 23 => true
 | 24 => false
 | 25 => false
 | 26 => false
 | 27 => true
 | 28 => false
 | 29 => true
 | 30 => true
 | _ + 31 => true
def szT : Ty → Nat
 | .st n => szSt n
 | _ => 1
def aggT : Ty → Bool
 | .st _ => true
 | _ => false
def zabj : Ty → Bool
 | .sl _ => false
 | .st n => zaex n
 | _ => true
def zabf : List (Nat × Ty) := [(2, (Ty.int .i64)), (3, (Ty.int .i64)), (4, Ty.bool), (5, (Ty.int .u8)), (6, (Ty.int .u8)), (8, Ty.yB), (9, Ty.str), (10, Ty.str), (11, Ty.str), (12, (Ty.int .u64)), (14, Ty.zV), (21, (Ty.int .i32)), (23, Ty.zJ), (24, (Ty.sl Ty.bool)), (26, Ty.Storage), (27, (Ty.sl Ty.zB)), (28, (Ty.sl Ty.zS)), (30, Ty.zG), (33, (Ty.int .i64)), (42, (Ty.sl Ty.str)), (44, Ty.zZ), (54, (Ty.sl Ty.yD)), (55, (Ty.sl Ty.zW)), (56, (Ty.sl Ty.yE)), (58, Ty.yG), (61, Ty.yH), (68, (Ty.sl Ty.Number)), (69, (Ty.sl (Ty.int .i64))), (71, Ty.zA), (84, Ty.Number), (89, Ty.zN), (91, Ty.DataType), (93, Ty.zB), (101, Ty.zS), (117, Ty.Value), (119, Ty.yD), (121, Ty.zW), (123, Ty.yC), (128, Ty.yI), (142, Ty.Address), (144, Ty.Pointer), (154, (Ty.sl (Ty.int .i64))), (159, Ty.zP), (164, Ty.zM), (173, Ty.zD), (186, Ty.yE), (203, (Ty.sl (Ty.int .u8))), (224, Ty.yF), (248, Ty.zI), (262, Ty.zU), (263, (Ty.int .u64)), (312, Ty.zR), (321, (Ty.int .u64)), (322, Ty.zH), (323, Ty.zH), (325, Ty.zQ), (348, (Ty.int .i8)), (374, (Ty.int .u32)), (383, (Ty.sl (Ty.sl (Ty.int .u8)))), (405, (Ty.int .u8)), (406, (Ty.int .u8)), (408, (Ty.int .i32)), (409, (Ty.int .i32))]
def En : Enc U := { sz := szT, agg := aggT, flat := zabj, enc := enc, reify := reify, ofGo := pick zabf, sl := Ty.sl, toSl := fun _ xs => xs, ofSl := fun _ xs => xs, u8 := .int .u8, ofInts := fun l => l, toInts := fun l => l }
def z6r : List zP := [⟨41, 1⟩, ⟨169, 1⟩, ⟨257, 0⟩, ⟨3, 0⟩, ⟨32807, 1⟩, ⟨6, 0⟩, ⟨6144, 0⟩, ⟨6150, 0⟩, ⟨4096, 0⟩, ⟨120, 2⟩, ⟨552, 2⟩, ⟨120, 2⟩, ⟨552, 2⟩, ⟨1536, 0⟩, ⟨8232, 3⟩, ⟨24576, 0⟩, ⟨8193, 0⟩, ⟨8192, 0⟩, ⟨4096, 0⟩, ⟨0, 0⟩, ⟨1, 0⟩, ⟨1, 0⟩, ⟨1, 0⟩, ⟨40, 2⟩, ⟨512, 0⟩, ⟨0, 0⟩, ⟨0, 0⟩]
def zabh : List Int := [1, 10, 100, 1000, 10000, 100000, 1000000, 10000000, 100000000, 1000000000, 10000000000, 100000000000, 1000000000000, 10000000000000, 100000000000000, 1000000000000000, 10000000000000000, 100000000000000000, 1000000000000000000, 10000000000000000000]
def zahe : List Int := [0, 1, 28, 2, 29, 14, 24, 3, 30, 22, 20, 15, 25, 17, 4, 8, 31, 27, 13, 23, 21, 19, 16, 7, 26, 12, 18, 6, 11, 5, 10, 9]
def zahd : List Int := [0, 1, 56, 2, 57, 49, 28, 3, 61, 58, 42, 50, 38, 29, 17, 4, 62, 47, 59, 36, 45, 43, 51, 22, 53, 39, 33, 30, 24, 18, 12, 5, 63, 55, 48, 27, 60, 41, 37, 16, 46, 35, 44, 21, 52, 32, 23, 11, 54, 26, 40, 15, 34, 20, 31, 10, 25, 14, 19, 9, 13, 8, 7, 6]
def globs : List (Nat × AV U) := [(0, .rarr Ty.zP z6r), (3, .rarr (Ty.int .u64) zabh), (4, .rarr (Ty.int .u8) zahe), (5, .rarr (Ty.int .u8) zahd)]
def zsq (O : List (Nat × Ct U)) (X : List (Nat × Nat)) (J : List (Nat × Amx.Spec U × List Ty)) (pre : List (Nat × List Nat)) (lits ro pk bj : List Nat) : Ctx U :=
 { P := Proofs.Tryz.prog, En := En, G := pick globs, O := pick O, X := pick X, joins := pick J, pre := fun r => (pick pre r).getD [], lits := lits, ro := ro, pk := pk, bj := bj }
theorem zac (k : IntKind) : Sp (U := U) (zbk k) (fun n : Int => [.sc (.int k n)]) := fun l x r h => by
 unfold zbk at h
 split at h
 · split at h
   · rename_i e; cases h; subst e; exact ⟨[_], rfl, F2.refl_ref _⟩
   · cases h
 · cases h
theorem zec : Sp (U := U) zf2 (fun b : Bool => [.sc (.bool b)]) := fun l x r h => by
 unfold zf2 at h
 split at h
 · cases h; exact ⟨[_], rfl, F2.refl_ref _⟩
 · cases h
theorem zpt : Sp (U := U) zsm (fun s : ByteArray => [.sc (.string s)]) := fun l x r h => by
 unfold zsm at h
 split at h
 · cases h; exact ⟨[_], rfl, F2.refl_ref _⟩
 · cases h
theorem zadw : Sp (U := U) z99 (fun _ : Unit => [.sc (.slice none 0 0)]) := fun l x r h => by
 unfold z99 at h
 split at h
 · cases h; exact ⟨[_], rfl, F2.refl_ref _⟩
 · cases h
theorem zjn (t : Ty) : Sp (U := U) (rSl t) (fun xs : List (den t) => [.lst t xs]) := fun l x r h => by
 unfold rSl at h
 split at h
 · rw [Option.map_eq_some_iff] at h; obtain ⟨⟨e⟩, _, h2⟩ := h; cases e; cases h2; exact ⟨[_], rfl, F2.refl_ref _⟩
 · cases h; exact ⟨[_], rfl, .cons (.inr ⟨rfl, _, rfl⟩) .nil⟩
 · cases h
theorem zxr : Sp (U := U) zov zs4 := fun l x r h => by
 unfold zov at h
 obtain ⟨x0, r0, p0, e0, f0, h⟩ := (zac .i64).step h
 obtain ⟨x1, r1, p1, (e1 : r0 = p1 ++ r1), f1, h⟩ := (zac .i64).step h
 cases h
 exact ⟨(p0 ++ p1), by rw [e0, e1]; simp only [List.append_assoc], (f0.append f1)⟩
theorem zsh : Sp (U := U) zk5 zoh := fun l x r h => by
 unfold zk5 at h
 obtain ⟨x0, r0, p0, e0, f0, h⟩ := (zac .i64).step h
 obtain ⟨x1, r1, p1, (e1 : r0 = p1 ++ r1), f1, h⟩ := (zac .i64).step h
 obtain ⟨x2, r2, p2, (e2 : r1 = p2 ++ r2), f2, h⟩ := zec.step h
 obtain ⟨x3, r3, p3, (e3 : r2 = p3 ++ r3), f3, h⟩ := (zac .u8).step h
 cases h
 exact ⟨(p0 ++ (p1 ++ (p2 ++ p3))), by rw [e0, e1, e2, e3]; simp only [List.append_assoc], (f0.append (f1.append (f2.append f3)))⟩
theorem zop : Sp (U := U) zia zk2 := fun l x r h => by
 unfold zia at h
 obtain ⟨x0, r0, p0, e0, f0, h⟩ := zpt.step h
 obtain ⟨x1, r1, p1, (e1 : r0 = p1 ++ r1), f1, h⟩ := (zac .u64).step h
 cases h
 exact ⟨(p0 ++ p1), by rw [e0, e1]; simp only [List.append_assoc], (f0.append f1)⟩
theorem z53 : Sp (U := U) zx8 z3y := fun l x r h => by
 unfold zx8 at h
 obtain ⟨x0, r0, p0, e0, f0, h⟩ := (zac .i64).step h
 obtain ⟨x1, r1, p1, (e1 : r0 = p1 ++ r1), f1, h⟩ := zec.step h
 obtain ⟨x2, r2, p2, (e2 : r1 = p2 ++ r2), f2, h⟩ := zec.step h
 cases h
 exact ⟨(p0 ++ (p1 ++ p2)), by rw [e0, e1, e2]; simp only [List.append_assoc], (f0.append (f1.append f2))⟩
theorem zn5 : Sp (U := U) znj z3t := fun l x r h => by
 unfold znj at h
 obtain ⟨x0, r0, p0, e0, f0, h⟩ := zpt.step h
 obtain ⟨x1, r1, p1, (e1 : r0 = p1 ++ r1), f1, h⟩ := (zjn Ty.bool).step h
 cases h
 exact ⟨(p0 ++ p1), by rw [e0, e1]; simp only [List.append_assoc], (f0.append f1)⟩
theorem ztk : Sp (U := U) zra z3x := fun l x r h => by
 unfold zra at h
 obtain ⟨x0, r0, p0, e0, f0, h⟩ := zec.step h
 obtain ⟨x1, r1, p1, (e1 : r0 = p1 ++ r1), f1, h⟩ := (zac .i64).step h
 obtain ⟨x2, r2, p2, (e2 : r1 = p2 ++ r2), f2, h⟩ := (zac .i64).step h
 cases h
 exact ⟨(p0 ++ (p1 ++ p2)), by rw [e0, e1, e2]; simp only [List.append_assoc], (f0.append (f1.append f2))⟩
theorem zmw : Sp (U := U) zl5 z1c := fun l x r h => by
 unfold zl5 at h
 obtain ⟨x0, r0, p0, e0, f0, h⟩ := (zac .i64).step h
 obtain ⟨x1, r1, p1, (e1 : r0 = p1 ++ r1), f1, h⟩ := (zac .i64).step h
 obtain ⟨x2, r2, p2, (e2 : r1 = p2 ++ r2), f2, h⟩ := (zac .i64).step h
 cases h
 exact ⟨(p0 ++ (p1 ++ p2)), by rw [e0, e1, e2]; simp only [List.append_assoc], (f0.append (f1.append f2))⟩
theorem z0t : Sp (U := U) zwj z5i := fun l x r h => by
 unfold zwj at h
 obtain ⟨x0, r0, p0, e0, f0, h⟩ := (zac .i64).step h
 obtain ⟨x1, r1, p1, (e1 : r0 = p1 ++ r1), f1, h⟩ := (zac .i64).step h
 cases h
 exact ⟨(p0 ++ p1), by rw [e0, e1]; simp only [List.append_assoc], (f0.append f1)⟩
theorem zxt : Sp (U := U) zoz zjc := fun l x r h => by
 unfold zoz at h
 obtain ⟨x0, r0, p0, e0, f0, h⟩ := (zac .i64).step h
 obtain ⟨x1, r1, p1, (e1 : r0 = p1 ++ r1), f1, h⟩ := (zac .i64).step h
 obtain ⟨x2, r2, p2, (e2 : r1 = p2 ++ r2), f2, h⟩ := (zac .i64).step h
 obtain ⟨x3, r3, p3, (e3 : r2 = p3 ++ r3), f3, h⟩ := (zac .i64).step h
 obtain ⟨x4, r4, p4, (e4 : r3 = p4 ++ r4), f4, h⟩ := (zac .i64).step h
 obtain ⟨x5, r5, p5, (e5 : r4 = p5 ++ r5), f5, h⟩ := ztk.step h
 obtain ⟨x6, r6, p6, (e6 : r5 = p6 ++ r6), f6, h⟩ := ztk.step h
 obtain ⟨x7, r7, p7, (e7 : r6 = p7 ++ r7), f7, h⟩ := zmw.step h
 obtain ⟨x8, r8, p8, (e8 : r7 = p8 ++ r8), f8, h⟩ := zmw.step h
 obtain ⟨x9, r9, p9, (e9 : r8 = p9 ++ r9), f9, h⟩ := zec.step h
 obtain ⟨x10, r10, p10, (e10 : r9 = p10 ++ r10), f10, h⟩ := zec.step h
 obtain ⟨x11, r11, p11, (e11 : r10 = p11 ++ r11), f11, h⟩ := z0t.step h
 obtain ⟨x12, r12, p12, (e12 : r11 = p12 ++ r12), f12, h⟩ := zpt.step h
 obtain ⟨x13, r13, p13, (e13 : r12 = p13 ++ r13), f13, h⟩ := zpt.step h
 obtain ⟨x14, r14, p14, (e14 : r13 = p14 ++ r14), f14, h⟩ := (zac .i64).step h
 obtain ⟨x15, r15, p15, (e15 : r14 = p15 ++ r15), f15, h⟩ := (zac .i64).step h
 obtain ⟨x16, r16, p16, (e16 : r15 = p16 ++ r16), f16, h⟩ := (zac .i64).step h
 obtain ⟨x17, r17, p17, (e17 : r16 = p17 ++ r17), f17, h⟩ := (zac .i64).step h
 cases h
 exact ⟨(p0 ++ (p1 ++ (p2 ++ (p3 ++ (p4 ++ (p5 ++ (p6 ++ (p7 ++ (p8 ++ (p9 ++ (p10 ++ (p11 ++ (p12 ++ (p13 ++ (p14 ++ (p15 ++ (p16 ++ p17))))))))))))))))), by rw [e0, e1, e2, e3, e4, e5, e6, e7, e8, e9, e10, e11, e12, e13, e14, e15, e16, e17]; simp only [List.append_assoc], (f0.append (f1.append (f2.append (f3.append (f4.append (f5.append (f6.append (f7.append (f8.append (f9.append (f10.append (f11.append (f12.append (f13.append (f14.append (f15.append (f16.append f17)))))))))))))))))⟩
theorem z7n : Sp (U := U) zz9 z5j := fun l x r h => by
 unfold zz9 at h
 obtain ⟨x0, r0, p0, e0, f0, h⟩ := (zac .i64).step h
 obtain ⟨x1, r1, p1, (e1 : r0 = p1 ++ r1), f1, h⟩ := (zac .i64).step h
 obtain ⟨x2, r2, p2, (e2 : r1 = p2 ++ r2), f2, h⟩ := (zac .i64).step h
 obtain ⟨x3, r3, p3, (e3 : r2 = p3 ++ r3), f3, h⟩ := (zac .i64).step h
 cases h
 exact ⟨(p0 ++ (p1 ++ (p2 ++ p3))), by rw [e0, e1, e2, e3]; simp only [List.append_assoc], (f0.append (f1.append (f2.append f3)))⟩
theorem z0u : Sp (U := U) zwk zll := fun l x r h => by
 unfold zwk at h
 obtain ⟨x0, r0, p0, e0, f0, h⟩ := zn5.step h
 obtain ⟨x1, r1, p1, (e1 : r0 = p1 ++ r1), f1, h⟩ := (zjn Ty.zB).step h
 obtain ⟨x2, r2, p2, (e2 : r1 = p2 ++ r2), f2, h⟩ := (zjn Ty.zS).step h
 cases h
 exact ⟨(p0 ++ (p1 ++ p2)), by rw [e0, e1, e2]; simp only [List.append_assoc], (f0.append (f1.append f2))⟩
theorem z4k : Sp (U := U) zvi z1b := fun l x r h => by
 unfold zvi at h
 obtain ⟨x0, r0, p0, e0, f0, h⟩ := (zjn Ty.str).step h
 obtain ⟨x1, r1, p1, (e1 : r0 = p1 ++ r1), f1, h⟩ := (zac .i64).step h
 obtain ⟨x2, r2, p2, (e2 : r1 = p2 ++ r2), f2, h⟩ := (zac .i64).step h
 obtain ⟨x3, r3, p3, (e3 : r2 = p3 ++ r3), f3, h⟩ := (zac .i64).step h
 obtain ⟨x4, r4, p4, (e4 : r3 = p4 ++ r4), f4, h⟩ := (zac .i64).step h
 obtain ⟨x5, r5, p5, (e5 : r4 = p5 ++ r5), f5, h⟩ := zn5.step h
 cases h
 exact ⟨(p0 ++ (p1 ++ (p2 ++ (p3 ++ (p4 ++ p5))))), by rw [e0, e1, e2, e3, e4, e5]; simp only [List.append_assoc], (f0.append (f1.append (f2.append (f3.append (f4.append f5)))))⟩
theorem z13 : Sp (U := U) zzb z80 := fun l x r h => by
 unfold zzb at h
 obtain ⟨x0, r0, p0, e0, f0, h⟩ := (zac .i64).step h
 obtain ⟨x1, r1, p1, (e1 : r0 = p1 ++ r1), f1, h⟩ := zpt.step h
 cases h
 exact ⟨(p0 ++ p1), by rw [e0, e1]; simp only [List.append_assoc], (f0.append f1)⟩
theorem z15 : Sp (U := U) zts zzr := fun l x r h => by
 unfold zts at h
 obtain ⟨x0, r0, p0, e0, f0, h⟩ := zpt.step h
 obtain ⟨x1, r1, p1, (e1 : r0 = p1 ++ r1), f1, h⟩ := (zac .i64).step h
 obtain ⟨x2, r2, p2, (e2 : r1 = p2 ++ r2), f2, h⟩ := zmw.step h
 obtain ⟨x3, r3, p3, (e3 : r2 = p3 ++ r3), f3, h⟩ := z13.step h
 obtain ⟨x4, r4, p4, (e4 : r3 = p4 ++ r4), f4, h⟩ := zpt.step h
 obtain ⟨x5, r5, p5, (e5 : r4 = p5 ++ r5), f5, h⟩ := (zac .i64).step h
 obtain ⟨x6, r6, p6, (e6 : r5 = p6 ++ r6), f6, h⟩ := (zac .i64).step h
 cases h
 exact ⟨(p0 ++ (p1 ++ (p2 ++ (p3 ++ (p4 ++ (p5 ++ p6)))))), by rw [e0, e1, e2, e3, e4, e5, e6]; simp only [List.append_assoc], (f0.append (f1.append (f2.append (f3.append (f4.append (f5.append f6))))))⟩
theorem zxs : Sp (U := U) zoy zs6 := fun l x r h => by
 unfold zoy at h
 obtain ⟨x0, r0, p0, e0, f0, h⟩ := (zac .i64).step h
 obtain ⟨x1, r1, p1, (e1 : r0 = p1 ++ r1), f1, h⟩ := (zjn (Ty.int .i64)).step h
 cases h
 exact ⟨(p0 ++ p1), by rw [e0, e1]; simp only [List.append_assoc], (f0.append f1)⟩
theorem z17 : Sp (U := U) ztt zzs := fun l x r h => by
 unfold ztt at h
 obtain ⟨x0, r0, p0, e0, f0, h⟩ := (zac .i64).step h
 obtain ⟨x1, r1, p1, (e1 : r0 = p1 ++ r1), f1, h⟩ := (zac .i64).step h
 obtain ⟨x2, r2, p2, (e2 : r1 = p2 ++ r2), f2, h⟩ := (zac .i64).step h
 obtain ⟨x3, r3, p3, (e3 : r2 = p3 ++ r3), f3, h⟩ := (zac .i64).step h
 cases h
 exact ⟨(p0 ++ (p1 ++ (p2 ++ p3))), by rw [e0, e1, e2, e3]; simp only [List.append_assoc], (f0.append (f1.append (f2.append f3)))⟩
theorem zuz : Sp (U := U) zqp zzq := fun l x r h => by
 unfold zqp at h
 obtain ⟨x0, r0, p0, e0, f0, h⟩ := (zjn Ty.yD).step h
 obtain ⟨x1, r1, p1, (e1 : r0 = p1 ++ r1), f1, h⟩ := (zjn Ty.zW).step h
 obtain ⟨x2, r2, p2, (e2 : r1 = p2 ++ r2), f2, h⟩ := (zjn Ty.yE).step h
 cases h
 exact ⟨(p0 ++ (p1 ++ p2)), by rw [e0, e1, e2]; simp only [List.append_assoc], (f0.append (f1.append f2))⟩
theorem z4j : Sp (U := U) zvh z1a := fun l x r h => by
 unfold zvh at h
 obtain ⟨x0, r0, p0, e0, f0, h⟩ := (zjn Ty.str).step h
 obtain ⟨x1, r1, p1, (e1 : r0 = p1 ++ r1), f1, h⟩ := (zac .i64).step h
 obtain ⟨x2, r2, p2, (e2 : r1 = p2 ++ r2), f2, h⟩ := (zac .i64).step h
 obtain ⟨x3, r3, p3, (e3 : r2 = p3 ++ r3), f3, h⟩ := (zac .i64).step h
 cases h
 exact ⟨(p0 ++ (p1 ++ (p2 ++ p3))), by rw [e0, e1, e2, e3]; simp only [List.append_assoc], (f0.append (f1.append (f2.append f3)))⟩
theorem zyx : Sp (U := U) ztu zis := fun l x r h => by
 unfold ztu at h
 obtain ⟨x0, r0, p0, e0, f0, h⟩ := (zjn Ty.Number).step h
 obtain ⟨x1, r1, p1, (e1 : r0 = p1 ++ r1), f1, h⟩ := (zac .i64).step h
 obtain ⟨x2, r2, p2, (e2 : r1 = p2 ++ r2), f2, h⟩ := zn5.step h
 obtain ⟨x3, r3, p3, (e3 : r2 = p3 ++ r3), f3, h⟩ := (zac .i64).step h
 obtain ⟨x4, r4, p4, (e4 : r3 = p4 ++ r4), f4, h⟩ := (zjn (Ty.int .i64)).step h
 obtain ⟨x5, r5, p5, (e5 : r4 = p5 ++ r5), f5, h⟩ := (zjn Ty.str).step h
 obtain ⟨x6, r6, p6, (e6 : r5 = p6 ++ r6), f6, h⟩ := (zac .i64).step h
 obtain ⟨x7, r7, p7, (e7 : r6 = p7 ++ r7), f7, h⟩ := (zac .i64).step h
 obtain ⟨x8, r8, p8, (e8 : r7 = p8 ++ r8), f8, h⟩ := (zac .i64).step h
 obtain ⟨x9, r9, p9, (e9 : r8 = p9 ++ r9), f9, h⟩ := (zac .i64).step h
 cases h
 exact ⟨(p0 ++ (p1 ++ (p2 ++ (p3 ++ (p4 ++ (p5 ++ (p6 ++ (p7 ++ (p8 ++ p9))))))))), by rw [e0, e1, e2, e3, e4, e5, e6, e7, e8, e9]; simp only [List.append_assoc], (f0.append (f1.append (f2.append (f3.append (f4.append (f5.append (f6.append (f7.append (f8.append f9)))))))))⟩
theorem zyw : Sp (U := U) ztr z3v := fun l x r h => by
 unfold ztr at h
 obtain ⟨x0, r0, p0, e0, f0, h⟩ := zn5.step h
 obtain ⟨x1, r1, p1, (e1 : r0 = p1 ++ r1), f1, h⟩ := (zac .i64).step h
 obtain ⟨x2, r2, p2, (e2 : r1 = p2 ++ r2), f2, h⟩ := (zjn (Ty.int .i64)).step h
 obtain ⟨x3, r3, p3, (e3 : r2 = p3 ++ r3), f3, h⟩ := (zjn Ty.str).step h
 obtain ⟨x4, r4, p4, (e4 : r3 = p4 ++ r4), f4, h⟩ := (zac .i64).step h
 obtain ⟨x5, r5, p5, (e5 : r4 = p5 ++ r5), f5, h⟩ := (zac .i64).step h
 obtain ⟨x6, r6, p6, (e6 : r5 = p6 ++ r6), f6, h⟩ := (zac .i64).step h
 cases h
 exact ⟨(p0 ++ (p1 ++ (p2 ++ (p3 ++ (p4 ++ (p5 ++ p6)))))), by rw [e0, e1, e2, e3, e4, e5, e6]; simp only [List.append_assoc], (f0.append (f1.append (f2.append (f3.append (f4.append (f5.append f6))))))⟩
theorem z52 : Sp (U := U) zx7 z3w := fun l x r h => by
 unfold zx7 at h
 obtain ⟨x0, r0, p0, e0, f0, h⟩ := (zac .i64).step h
 obtain ⟨x1, r1, p1, (e1 : r0 = p1 ++ r1), f1, h⟩ := (zac .i64).step h
 cases h
 exact ⟨(p0 ++ p1), by rw [e0, e1]; simp only [List.append_assoc], (f0.append f1)⟩
theorem zyy : Sp (U := U) ztv z3z := fun l x r h => by
 unfold ztv at h
 obtain ⟨x0, r0, p0, e0, f0, h⟩ := (zac .i64).step h
 obtain ⟨x1, r1, p1, (e1 : r0 = p1 ++ r1), f1, h⟩ := (zac .i64).step h
 cases h
 exact ⟨(p0 ++ p1), by rw [e0, e1]; simp only [List.append_assoc], (f0.append f1)⟩
theorem z51 : Sp (U := U) zx6 z3u := fun l x r h => by
 unfold zx6 at h
 obtain ⟨x0, r0, p0, e0, f0, h⟩ := (zac .i64).step h
 obtain ⟨x1, r1, p1, (e1 : r0 = p1 ++ r1), f1, h⟩ := zyy.step h
 obtain ⟨x2, r2, p2, (e2 : r1 = p2 ++ r2), f2, h⟩ := (zac .i64).step h
 cases h
 exact ⟨(p0 ++ (p1 ++ p2)), by rw [e0, e1, e2]; simp only [List.append_assoc], (f0.append (f1.append f2))⟩
theorem zyv : Sp (U := U) zqe zuo := fun l x r h => by
 unfold zqe at h
 obtain ⟨x0, r0, p0, e0, f0, h⟩ := zec.step h
 obtain ⟨x1, r1, p1, (e1 : r0 = p1 ++ r1), f1, h⟩ := zec.step h
 obtain ⟨x2, r2, p2, (e2 : r1 = p2 ++ r2), f2, h⟩ := zec.step h
 obtain ⟨x3, r3, p3, (e3 : r2 = p3 ++ r3), f3, h⟩ := zec.step h
 obtain ⟨x4, r4, p4, (e4 : r3 = p4 ++ r4), f4, h⟩ := zec.step h
 obtain ⟨x5, r5, p5, (e5 : r4 = p5 ++ r5), f5, h⟩ := zec.step h
 obtain ⟨x6, r6, p6, (e6 : r5 = p6 ++ r6), f6, h⟩ := zec.step h
 obtain ⟨x7, r7, p7, (e7 : r6 = p7 ++ r7), f7, h⟩ := zec.step h
 obtain ⟨x8, r8, p8, (e8 : r7 = p8 ++ r8), f8, h⟩ := zec.step h
 obtain ⟨x9, r9, p9, (e9 : r8 = p9 ++ r9), f9, h⟩ := zec.step h
 obtain ⟨x10, r10, p10, (e10 : r9 = p10 ++ r10), f10, h⟩ := zec.step h
 obtain ⟨x11, r11, p11, (e11 : r10 = p11 ++ r11), f11, h⟩ := zec.step h
 obtain ⟨x12, r12, p12, (e12 : r11 = p12 ++ r12), f12, h⟩ := zec.step h
 obtain ⟨x13, r13, p13, (e13 : r12 = p13 ++ r13), f13, h⟩ := zec.step h
 obtain ⟨x14, r14, p14, (e14 : r13 = p14 ++ r14), f14, h⟩ := (zac .i64).step h
 obtain ⟨x15, r15, p15, (e15 : r14 = p15 ++ r15), f15, h⟩ := (zac .i64).step h
 cases h
 exact ⟨(p0 ++ (p1 ++ (p2 ++ (p3 ++ (p4 ++ (p5 ++ (p6 ++ (p7 ++ (p8 ++ (p9 ++ (p10 ++ (p11 ++ (p12 ++ (p13 ++ (p14 ++ p15))))))))))))))), by rw [e0, e1, e2, e3, e4, e5, e6, e7, e8, e9, e10, e11, e12, e13, e14, e15]; simp only [List.append_assoc], (f0.append (f1.append (f2.append (f3.append (f4.append (f5.append (f6.append (f7.append (f8.append (f9.append (f10.append (f11.append (f12.append (f13.append (f14.append f15)))))))))))))))⟩
theorem zus : Sp (U := U) zmu zqi := fun l x r h => by
 unfold zmu at h
 obtain ⟨x0, r0, p0, e0, f0, h⟩ := zyx.step h
 obtain ⟨x1, r1, p1, (e1 : r0 = p1 ++ r1), f1, h⟩ := z0u.step h
 obtain ⟨x2, r2, p2, (e2 : r1 = p2 ++ r2), f2, h⟩ := (zac .i64).step h
 cases h
 exact ⟨(p0 ++ (p1 ++ p2)), by rw [e0, e1, e2]; simp only [List.append_assoc], (f0.append (f1.append f2))⟩
theorem ztj : Sp (U := U) zl1 zqb := fun l x r h => by
 unfold zl1 at h
 obtain ⟨x0, r0, p0, e0, f0, h⟩ := zuz.step h
 obtain ⟨x1, r1, p1, (e1 : r0 = p1 ++ r1), f1, h⟩ := zyw.step h
 obtain ⟨x2, r2, p2, (e2 : r1 = p2 ++ r2), f2, h⟩ := (zjn (Ty.int .i64)).step h
 obtain ⟨x3, r3, p3, (e3 : r2 = p3 ++ r3), f3, h⟩ := (zac .i64).step h
 cases h
 exact ⟨(p0 ++ (p1 ++ (p2 ++ p3))), by rw [e0, e1, e2, e3]; simp only [List.append_assoc], (f0.append (f1.append (f2.append f3)))⟩
theorem zuj : Sp (U := U) zpj zxg := fun l x r h => by
 unfold zpj at h
 obtain ⟨x0, r0, p0, e0, f0, h⟩ := zec.step h
 obtain ⟨x1, r1, p1, (e1 : r0 = p1 ++ r1), f1, h⟩ := (zjn (Ty.int .i64)).step h
 cases h
 exact ⟨(p0 ++ p1), by rw [e0, e1]; simp only [List.append_assoc], (f0.append f1)⟩
theorem zxq : Sp (U := U) zos zs3 := fun l x r h => by
 unfold zos at h
 obtain ⟨x0, r0, p0, e0, f0, h⟩ := (zac .i64).step h
 obtain ⟨x1, r1, p1, (e1 : r0 = p1 ++ r1), f1, h⟩ := zmw.step h
 obtain ⟨x2, r2, p2, (e2 : r1 = p2 ++ r2), f2, h⟩ := zec.step h
 cases h
 exact ⟨(p0 ++ (p1 ++ p2)), by rw [e0, e1, e2]; simp only [List.append_assoc], (f0.append (f1.append f2))⟩
theorem zwx : Sp (U := U) zn7 zr5 := fun l x r h => by
 unfold zn7 at h
 obtain ⟨x0, r0, p0, e0, f0, h⟩ := zuj.step h
 obtain ⟨x1, r1, p1, (e1 : r0 = p1 ++ r1), f1, h⟩ := (zjn (Ty.int .i64)).step h
 cases h
 exact ⟨(p0 ++ p1), by rw [e0, e1]; simp only [List.append_assoc], (f0.append f1)⟩
theorem zu0 : Sp (U := U) zsx z5k := fun l x r h => by
 unfold zsx at h
 obtain ⟨x0, r0, p0, e0, f0, h⟩ := (zac .u64).step h
 obtain ⟨x1, r1, p1, (e1 : r0 = p1 ++ r1), f1, h⟩ := (zac .u64).step h
 obtain ⟨x2, r2, p2, (e2 : r1 = p2 ++ r2), f2, h⟩ := (zac .u64).step h
 obtain ⟨x3, r3, p3, (e3 : r2 = p3 ++ r3), f3, h⟩ := (zac .u64).step h
 cases h
 exact ⟨(p0 ++ (p1 ++ (p2 ++ p3))), by rw [e0, e1, e2, e3]; simp only [List.append_assoc], (f0.append (f1.append (f2.append f3)))⟩
theorem zur : Sp (U := U) zmt zqh := fun l x r h => by
 unfold zmt at h
 obtain ⟨x0, r0, p0, e0, f0, h⟩ := zec.step h
 obtain ⟨x1, r1, p1, (e1 : r0 = p1 ++ r1), f1, h⟩ := zu0.step h
 obtain ⟨x2, r2, p2, (e2 : r1 = p2 ++ r2), f2, h⟩ := zu0.step h
 cases h
 exact ⟨(p0 ++ (p1 ++ p2)), by rw [e0, e1, e2]; simp only [List.append_assoc], (f0.append (f1.append f2))⟩
theorem sp : ∀ t : Ty, Sp (U := U) (rd t) (enc t)
 | .int k => zac k
 | .bool => zec
 | .str => zpt
 | .nil => zadw
 | .sl t => zjn t
 | .st 0 => zxr
 | .st 1 => zsh
 | .st 2 => zop
 | .st 3 => z53
 | .st 4 => zn5
 | .st 5 => ztk
 | .st 6 => zmw
 | .st 7 => z0t
 | .st 8 => zxt
 | .st 9 => z7n
 | .st 10 => z0u
 | .st 11 => z4k
 | .st 12 => z13
 | .st 13 => z15
 | .st 14 => zxs
 | .st 15 => z17
 | .st 16 => zuz
 | .st 17 => z4j
 | .st 18 => zyx
 | .st 19 => zyw
 | .st 20 => z52
 | .st 21 => zyy
 | .st 22 => z51
 | .st 23 => zyv
 | .st 24 => zus
 | .st 25 => ztj
 | .st 26 => zuj
 | .st 27 => zxq
 | .st 28 => zwx
 | .st 29 => zu0
 | .st 30 => zur
 | .st (_ + 31) => fun l x r h => by cases h
theorem zaa7 : ∀ (t : Ty) (x : den t), (enc t x).length = szT t
 | .int _, _ => rfl
 | .bool, _ => rfl
 | .str, _ => rfl
 | .nil, _ => rfl
 | .sl _, _ => rfl
 | .st 0, _ => rfl
 | .st 1, _ => rfl
 | .st 2, _ => rfl
 | .st 3, _ => rfl
 | .st 4, _ => rfl
 | .st 5, _ => rfl
 | .st 6, _ => rfl
 | .st 7, _ => rfl
 | .st 8, _ => rfl
 | .st 9, _ => rfl
 | .st 10, _ => rfl
 | .st 11, _ => rfl
 | .st 12, _ => rfl
 | .st 13, _ => rfl
 | .st 14, _ => rfl
 | .st 15, _ => rfl
 | .st 16, _ => rfl
 | .st 17, _ => rfl
 | .st 18, _ => rfl
 | .st 19, _ => rfl
 | .st 20, _ => rfl
 | .st 21, _ => rfl
 | .st 22, _ => rfl
 | .st 23, _ => rfl
 | .st 24, _ => rfl
 | .st 25, _ => rfl
 | .st 26, _ => rfl
 | .st 27, _ => rfl
 | .st 28, _ => rfl
 | .st 29, _ => rfl
 | .st 30, _ => rfl
 | .st (_ + 31), _ => rfl
theorem zad8 : ∀ t : Ty, 0 < szT t
 | .int _ => Nat.one_pos
 | .bool => Nat.one_pos
 | .str => Nat.one_pos
 | .nil => Nat.one_pos
 | .sl _ => Nat.one_pos
 | .st 0 => (by decide : 0 < 2)
 | .st 1 => (by decide : 0 < 4)
 | .st 2 => (by decide : 0 < 2)
 | .st 3 => (by decide : 0 < 3)
 | .st 4 => (by decide : 0 < 2)
 | .st 5 => (by decide : 0 < 3)
 | .st 6 => (by decide : 0 < 3)
 | .st 7 => (by decide : 0 < 2)
 | .st 8 => (by decide : 0 < 27)
 | .st 9 => (by decide : 0 < 4)
 | .st 10 => (by decide : 0 < 4)
 | .st 11 => (by decide : 0 < 7)
 | .st 12 => (by decide : 0 < 2)
 | .st 13 => (by decide : 0 < 10)
 | .st 14 => (by decide : 0 < 2)
 | .st 15 => (by decide : 0 < 4)
 | .st 16 => (by decide : 0 < 3)
 | .st 17 => (by decide : 0 < 4)
 | .st 18 => (by decide : 0 < 11)
 | .st 19 => (by decide : 0 < 8)
 | .st 20 => (by decide : 0 < 2)
 | .st 21 => (by decide : 0 < 2)
 | .st 22 => (by decide : 0 < 4)
 | .st 23 => (by decide : 0 < 16)
 | .st 24 => (by decide : 0 < 16)
 | .st 25 => (by decide : 0 < 13)
 | .st 26 => (by decide : 0 < 2)
 | .st 27 => (by decide : 0 < 5)
 | .st 28 => (by decide : 0 < 3)
 | .st 29 => (by decide : 0 < 4)
 | .st 30 => (by decide : 0 < 9)
 | .st (_ + 31) => Nat.one_pos
theorem zahf : ∀ (t : Ty) (x : den t), (enc t x).all (fzc (U := U)) = true
 | .int _, _ => rfl
 | .bool, _ => rfl
 | .str, _ => rfl
 | .nil, _ => rfl
 | .sl _, _ => rfl
 | .st 0, _ => rfl
 | .st 1, _ => rfl
 | .st 2, _ => rfl
 | .st 3, _ => rfl
 | .st 4, _ => rfl
 | .st 5, _ => rfl
 | .st 6, _ => rfl
 | .st 7, _ => rfl
 | .st 8, _ => rfl
 | .st 9, _ => rfl
 | .st 10, _ => rfl
 | .st 11, _ => rfl
 | .st 12, _ => rfl
 | .st 13, _ => rfl
 | .st 14, _ => rfl
 | .st 15, _ => rfl
 | .st 16, _ => rfl
 | .st 17, _ => rfl
 | .st 18, _ => rfl
 | .st 19, _ => rfl
 | .st 20, _ => rfl
 | .st 21, _ => rfl
 | .st 22, _ => rfl
 | .st 23, _ => rfl
 | .st 24, _ => rfl
 | .st 25, _ => rfl
 | .st 26, _ => rfl
 | .st 27, _ => rfl
 | .st 28, _ => rfl
 | .st 29, _ => rfl
 | .st 30, _ => rfl
 | .st (_ + 31), _ => rfl
theorem zact : ∀ t : Ty, zabj t = true → ∀ x : den t, (enc t x).all (z7o (U := U)) = true
 | .int _, _, _ => rfl
 | .bool, _, _ => rfl
 | .str, _, _ => rfl
 | .nil, _, _ => rfl
 | .sl _, h, _ => by cases h
 | .st 0, _, _ => rfl
 | .st 1, _, _ => rfl
 | .st 2, _, _ => rfl
 | .st 3, _, _ => rfl
 | .st 4, h, _ => by cases h
 | .st 5, _, _ => rfl
 | .st 6, _, _ => rfl
 | .st 7, _, _ => rfl
 | .st 8, _, _ => rfl
 | .st 9, _, _ => rfl
 | .st 10, h, _ => by cases h
 | .st 11, h, _ => by cases h
 | .st 12, _, _ => rfl
 | .st 13, _, _ => rfl
 | .st 14, h, _ => by cases h
 | .st 15, _, _ => rfl
 | .st 16, h, _ => by cases h
 | .st 17, h, _ => by cases h
 | .st 18, h, _ => by cases h
 | .st 19, h, _ => by cases h
 | .st 20, _, _ => rfl
 | .st 21, _, _ => rfl
 | .st 22, _, _ => rfl
 | .st 23, _, _ => rfl
 | .st 24, h, _ => by cases h
 | .st 25, h, _ => by cases h
 | .st 26, h, _ => by cases h
 | .st 27, _, _ => rfl
 | .st 28, h, _ => by cases h
 | .st 29, _, _ => rfl
 | .st 30, _, _ => rfl
 | .st (_ + 31), _, _ => rfl
theorem zaee : ∀ t : Ty, aggT t = false → szT t = 1
 | .int _, _ => rfl
 | .bool, _ => rfl
 | .str, _ => rfl
 | .nil, _ => rfl
 | .sl _, _ => rfl
 | .st _, h => by cases h
theorem zj5 : ELaws En where
 sz := zaa7
 pos := zad8
 fz := fun t x c hc => zaan (z5p (zahf t x) hc)
 one := zaee
 reify := fun t cs x h => by
  have h' : reify t cs = some x := h; unfold reify at h'; rw [Option.bind_eq_some_iff] at h'; obtain ⟨⟨y, r⟩, h1, h2⟩ := h'; cases r with
  | cons => cases h2
  | nil =>
   cases h2; obtain ⟨p, e, f⟩ := sp t cs _ _ h1; rw [List.append_nil] at e; subst e; exact ⟨f.length.trans (zaa7 t _), fun j c c' g1 g2 => f.get j c c' g1 g2⟩
 flat := fun t ht x c hc => z4n (z5p (zact t ht x) hc)
 slAgg := fun _ => rfl
 slEnc := fun _ _ => rfl
 ofTo := fun _ _ => rfl
 u8sz := rfl
 u8 := fun x => ⟨x, rfl⟩
 toInts := fun xs i x n h1 h2 => by cases h2; exact h1
 toIntsLen := fun _ => rfl
 ofInts := fun l i n h => ⟨n, h, rfl⟩
 ofIntsLen := fun _ => rfl
theorem zwt {O : List (Nat × Ct U)} {X : List (Nat × Nat)} {J : List (Nat × Amx.Spec U × List Ty)} {pre : List (Nat × List Nat)} {lits ro pk bj : List Nat} : CLaws (zsq O X J pre lits ro pk bj) :=
 zaav zj5 (l := zabf) rfl (by kernel_rfl)
def ctv (ps : List (Md U)) (res outs : List Ty) (fr : List Nat) (ts : List Ty) (f : Fnc U ts (PT U (res ++ outs))) : Ct U := { params := ps, results := res, outs := outs, fresh := fr, fn := app U ts f }
def cvv (res ts : List Ty) (f : Fnc U ts (PT U (res ++ []))) : Ct U := ctv (ts.map .val) res [] [] ts f
def K0 : Ctx U := zsq [] [] [] [] [] [] [] []
@[reducible] def Kq : Type := Kp K0
structure Cf where
 X : List (Nat × Nat) := []
 J : List (Nat × Amx.Spec U × List Ty) := []
 pre : List (Nat × List Nat) := []
 lits : List Nat := []
 ro : List Nat := []
 pk : List Nat := []
 bj : List Nat := []
def cxo (l : List Kq) (c : Cf) : Ctx U := zsq (Osk l) c.X c.J c.pre c.lits c.ro c.pk c.bj
theorem go (l : List Kq) (c : Cf) {f : FuncId} {fn : Func} {ps : List (Md U)} {res outs : List Ty} {fr : List Nat} {ts : List Ty} {F : Fnc U ts (PT U (res ++ outs))} (L : List (Nat × Cut U (PT U ((ctv ps res outs fr ts F).results ++ (ctv ps res outs fr ts F).outs)))) (hf : Proofs.Tryz.prog.funcs[f]? = some fn) (hn : ((fn.name == "runtime.NumGoroutine") || !fn.body.isSome) = false := by kernel_rfl)
 (hok : zzp (cxo l c) (ctv ps res outs fr ts F) = fun _ => true := by kernel_rfl) (hr : (cur ts (z9v (cxo l c) fn (ctv ps res outs fr ts F) (pick L)) : Fnc U ts (PT U (res ++ outs))) = F := by kernel_rfl) (hL : Ls (cxo l c) fn (ctv ps res outs fr ts F) (pick L) L := by exact trivial) (hX : ∀ p ∈ c.X, zwa Proofs.Tryz.prog p := by exact zdg) : zh8 K0 f (ctv ps res outs fr ts F) := by
 rw [Bool.or_eq_false_iff] at hn
 exact zh8.ctx (C := cxo l c) (C' := K0) rfl rfl rfl (z8i (C := cxo l c) zwt (zagp (C := cxo l c) (C0 := K0) (l := l) rfl rfl rfl rfl) (zuu (l := c.X) rfl hX) hf hn.1 (by simpa using hn.2) (zael rfl hL) (fun y => congrFun hok y) (zacy hr))
theorem zafj : zwa Proofs.Tryz.prog (331, 2) := zabn Proofs.Tryz.func331 (by kernel_rfl) (by kernel_rfl) (by kernel_rfl) (by kernel_rfl)
theorem zaa3 : zwa Proofs.Tryz.prog (347, 0) := z7d Proofs.Tryz.func347 (by kernel_rfl) (by kernel_rfl) (by kernel_rfl) (by kernel_rfl)
theorem zafi : zwa Proofs.Tryz.prog (355, 1) := z7c Proofs.Tryz.func355 (by kernel_rfl) (by kernel_rfl) (by kernel_rfl) (by kernel_rfl)
end
end Go.Proofs.YtppbpnknfigboaaGreatDoor.M
