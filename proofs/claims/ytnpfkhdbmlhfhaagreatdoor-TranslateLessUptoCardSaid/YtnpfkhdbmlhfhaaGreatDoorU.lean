/- The program's types, and their cells. -/
import Derived.Test.YtnpfkhdbmlhfhaaGreatDoorA4
import Derived.Test.YtnpfkhdbmlhfhaaGreatDoorShelf
import Derived.KernelRfl
namespace Go.Proofs.YtnpfkhdbmlhfhaaGreatDoor.M
open Go Go.Amx
set_option linter.unusedVariables false
set_option maxRecDepth 100000
noncomputable section
structure zR where
 fields : Int
 types : Int
structure zY where
 x : Int
 y : Int
 signed : Bool
 code : Int
structure zW where
 msg : ByteArray
 addr : Int
structure zI where
 Registers : Int
 yB : Bool
 zZ : Bool
structure Storage where
 Bytes : ByteArray
 Tags : List Bool
structure zL where
 Based : Bool
 Pointer : Int
 Offset : Int
structure DataType where
 Kind : Int
 Length : Int
 Scale : Int
structure Number where
 N : Int
 Scale : Int
structure zC where
 Op : Int
 R : Int
 A : Int
 B : Int
 zO : Int
 Place : zL
 From : zL
 zD : DataType
 Second : DataType
 Half : Bool
 zK : Bool
 Number : Number
 Text : ByteArray
 Other : ByteArray
 Mask : Int
 Target : Int
 Pointer : Int
 Source : Int
structure zQ where
 From : Int
 To : Int
 Exception : Int
 Handler : Int
structure zF where
 Storage : Storage
 zA : List zC
 zP : List zQ
structure zB where
 Register : Int
 zD : DataType
 Offset : Int
structure zV where
 Facts : List (List zB)
 Index : List Int
structure Value where
 N : Int
 S : ByteArray
structure zH where
 Name : ByteArray
 Kind : Int
 zD : DataType
 Value : Value
 Base : ByteArray
 Offset : Int
 Target : Int
structure zM where
 Op : Int
 Args : List Int
structure zT where
 From : Int
 To : Int
 Exception : Int
 Handler : Int
structure zJ where
 zS : List zH
 zA : List zM
 yA : List zT
structure zX where
 Starts : List Int
structure Translation where
 Model : zI
 Code : zF
 Map : zX
structure Optimization where
 Model : zI
 Before : zF
 After : zF
 Proof : zV
structure zG where
 zJ : zJ
 layout : List Int
 code : List zC
structure zU where
 Part : Int
 Index : Int
structure zN where
 R : Bool
 A : Bool
 B : Bool
 Place : Bool
 From : Bool
 Half : Bool
 Number : Bool
 zO : Bool
 Mask : Bool
 Target : Bool
 Text : Bool
 Other : Bool
 Pointer : Bool
 Source : Bool
 zD : Int
 Second : Int
structure Address where
 yC : Int
 Offset : Int
structure Pointer where
 Kind : Int
 Address : Address
 Authority : Int
inductive Ty where
 | int (k : IntKind)
 | bool
 | str
 | nil
 | sl (t : Ty)
 | st (n : Nat)
@[reducible] def z0u : Nat → Type
 | 0 => zR
 | 1 => zY
 | 2 => zW
 | 3 => zI
 | 4 => Storage
 | 5 => zL
 | 6 => DataType
 | 7 => Number
 | 8 => zC
 | 9 => zQ
 | 10 => zF
 | 11 => zB
 | 12 => zV
 | 13 => Value
 | 14 => zH
 | 15 => zM
 | 16 => zT
 | 17 => zJ
 | 18 => zX
 | 19 => Translation
 | 20 => Optimization
 | 21 => zG
 | 22 => zU
 | 23 => zN
 | 24 => Address
 | 25 => Pointer
 | _ + 26 => Unit
@[reducible] def den : Ty → Type
 | .int _ => Int
 | .bool => Bool
 | .str => ByteArray
 | .nil => Unit
 | .sl t => List (den t)
 | .st n => z0u n
def eqTy : (a b : Ty) → Option (PLift (a = b))
 | .int j, .int k => if h : j = k then some ⟨by rw [h]⟩ else none
 | .bool, .bool => some ⟨rfl⟩
 | .str, .str => some ⟨rfl⟩
 | .nil, .nil => some ⟨rfl⟩
 | .sl a, .sl b => match eqTy a b with
  | some ⟨h⟩ => some ⟨by rw [h]⟩
  | none => none
 | .st i, .st j => if h : i = j then some ⟨by rw [h]⟩ else none
 | _, _ => none
@[reducible] def U : Uni := { Ty := Ty, den := den, eqTy := eqTy }
@[reducible] def T6 : Ty := Ty.int .i64
def w6 (n : Int) : Int := IntKind.wrap .i64 n
@[reducible] def Ty.zR : Ty := .st 0
@[reducible] def Ty.zY : Ty := .st 1
@[reducible] def Ty.zW : Ty := .st 2
@[reducible] def Ty.zI : Ty := .st 3
@[reducible] def Ty.Storage : Ty := .st 4
@[reducible] def Ty.zL : Ty := .st 5
@[reducible] def Ty.DataType : Ty := .st 6
@[reducible] def Ty.Number : Ty := .st 7
@[reducible] def Ty.zC : Ty := .st 8
@[reducible] def Ty.zQ : Ty := .st 9
@[reducible] def Ty.zF : Ty := .st 10
@[reducible] def Ty.zB : Ty := .st 11
@[reducible] def Ty.zV : Ty := .st 12
@[reducible] def Ty.Value : Ty := .st 13
@[reducible] def Ty.zH : Ty := .st 14
@[reducible] def Ty.zM : Ty := .st 15
@[reducible] def Ty.zT : Ty := .st 16
@[reducible] def Ty.zJ : Ty := .st 17
@[reducible] def Ty.zX : Ty := .st 18
@[reducible] def Ty.Translation : Ty := .st 19
@[reducible] def Ty.Optimization : Ty := .st 20
@[reducible] def Ty.zG : Ty := .st 21
@[reducible] def Ty.zU : Ty := .st 22
@[reducible] def Ty.zN : Ty := .st 23
@[reducible] def Ty.Address : Ty := .st 24
@[reducible] def Ty.Pointer : Ty := .st 25
def zcc (k : IntKind) : List (AV U) → Option (Int × List (AV U))
 | .sc (.int k' n) :: l => if k = k' then some (n, l) else none
 | _ => none
def zfh : List (AV U) → Option (Bool × List (AV U))
 | .sc (.bool b) :: l => some (b, l)
 | _ => none
def zo7 : List (AV U) → Option (ByteArray × List (AV U))
 | .sc (.string s) :: l => some (s, l)
 | _ => none
def z4p : List (AV U) → Option (Unit × List (AV U))
 | .sc (.slice none 0 0) :: l => some ((), l)
 | _ => none
def rSl (t : Ty) : List (AV U) → Option (List (den t) × List (AV U))
 | .lst t' xs :: l => (U.eqTy t' t).map fun e => (zrb e xs, l)
 | .sc (.slice none 0 0) :: l => some ([], l)
 | _ => none
def zl8 (l : List (AV U)) : Option (zR × List (AV U)) := (zcc .i64 l).bind fun x0 => (zcc .i64 x0.2).bind fun x1 => some (⟨x0.1, x1.1⟩, x1.2)
def ziu (l : List (AV U)) : Option (zY × List (AV U)) := (zcc .i64 l).bind fun x0 => (zcc .i64 x0.2).bind fun x1 => (zfh x1.2).bind fun x2 => (zcc .u8 x2.2).bind fun x3 => some (⟨x0.1, x1.1, x2.1, x3.1⟩, x3.2)
def zgd (l : List (AV U)) : Option (zW × List (AV U)) := (zo7 l).bind fun x0 => (zcc .u64 x0.2).bind fun x1 => some (⟨x0.1, x1.1⟩, x1.2)
def zn2 (l : List (AV U)) : Option (zI × List (AV U)) := (zcc .i64 l).bind fun x0 => (zfh x0.2).bind fun x1 => (zfh x1.2).bind fun x2 => some (⟨x0.1, x1.1, x2.1⟩, x2.2)
def zql (l : List (AV U)) : Option (Storage × List (AV U)) := (zo7 l).bind fun x0 => (rSl Ty.bool x0.2).bind fun x1 => some (⟨x0.1, x1.1⟩, x1.2)
def zn1 (l : List (AV U)) : Option (zL × List (AV U)) := (zfh l).bind fun x0 => (zcc .i64 x0.2).bind fun x1 => (zcc .i64 x1.2).bind fun x2 => some (⟨x0.1, x1.1, x2.1⟩, x2.2)
def zju (l : List (AV U)) : Option (DataType × List (AV U)) := (zcc .i64 l).bind fun x0 => (zcc .i64 x0.2).bind fun x1 => (zcc .i64 x1.2).bind fun x2 => some (⟨x0.1, x1.1, x2.1⟩, x2.2)
def zso (l : List (AV U)) : Option (Number × List (AV U)) := (zcc .i64 l).bind fun x0 => (zcc .i64 x0.2).bind fun x1 => some (⟨x0.1, x1.1⟩, x1.2)
def zmb (l : List (AV U)) : Option (zC × List (AV U)) := (zcc .i64 l).bind fun x0 => (zcc .i64 x0.2).bind fun x1 => (zcc .i64 x1.2).bind fun x2 => (zcc .i64 x2.2).bind fun x3 => (zcc .i64 x3.2).bind fun x4 => (zn1 x4.2).bind fun x5 => (zn1 x5.2).bind fun x6 => (zju x6.2).bind fun x7 => (zju x7.2).bind fun x8 => (zfh x8.2).bind fun x9 => (zfh x9.2).bind fun x10 => (zso x10.2).bind fun x11 => (zo7 x11.2).bind fun x12 => (zo7 x12.2).bind fun x13 => (zcc .i64 x13.2).bind fun x14 => (zcc .i64 x14.2).bind fun x15 => (zcc .i64 x15.2).bind fun x16 => (zcc .i64 x16.2).bind fun x17 => some (⟨x0.1, x1.1, x2.1, x3.1, x4.1, x5.1, x6.1, x7.1, x8.1, x9.1, x10.1, x11.1, x12.1, x13.1, x14.1, x15.1, x16.1, x17.1⟩, x17.2)
def zvw (l : List (AV U)) : Option (zQ × List (AV U)) := (zcc .i64 l).bind fun x0 => (zcc .i64 x0.2).bind fun x1 => (zcc .i64 x1.2).bind fun x2 => (zcc .i64 x2.2).bind fun x3 => some (⟨x0.1, x1.1, x2.1, x3.1⟩, x3.2)
def znm (l : List (AV U)) : Option (zF × List (AV U)) := (zql l).bind fun x0 => (rSl Ty.zC x0.2).bind fun x1 => (rSl Ty.zQ x1.2).bind fun x2 => some (⟨x0.1, x1.1, x2.1⟩, x2.2)
def zvx (l : List (AV U)) : Option (zB × List (AV U)) := (zcc .i64 l).bind fun x0 => (zju x0.2).bind fun x1 => (zcc .i64 x1.2).bind fun x2 => some (⟨x0.1, x1.1, x2.1⟩, x2.2)
def zqo (l : List (AV U)) : Option (zV × List (AV U)) := (rSl (Ty.sl Ty.zB) l).bind fun x0 => (rSl (Ty.int .i64) x0.2).bind fun x1 => some (⟨x0.1, x1.1⟩, x1.2)
def zu1 (l : List (AV U)) : Option (Value × List (AV U)) := (zcc .i64 l).bind fun x0 => (zo7 x0.2).bind fun x1 => some (⟨x0.1, x1.1⟩, x1.2)
def zqm (l : List (AV U)) : Option (zH × List (AV U)) := (zo7 l).bind fun x0 => (zcc .i64 x0.2).bind fun x1 => (zju x1.2).bind fun x2 => (zu1 x2.2).bind fun x3 => (zo7 x3.2).bind fun x4 => (zcc .i64 x4.2).bind fun x5 => (zcc .i64 x5.2).bind fun x6 => some (⟨x0.1, x1.1, x2.1, x3.1, x4.1, x5.1, x6.1⟩, x6.2)
def zma (l : List (AV U)) : Option (zM × List (AV U)) := (zcc .i64 l).bind fun x0 => (rSl (Ty.int .i64) x0.2).bind fun x1 => some (⟨x0.1, x1.1⟩, x1.2)
def zqn (l : List (AV U)) : Option (zT × List (AV U)) := (zcc .i64 l).bind fun x0 => (zcc .i64 x0.2).bind fun x1 => (zcc .i64 x1.2).bind fun x2 => (zcc .i64 x2.2).bind fun x3 => some (⟨x0.1, x1.1, x2.1, x3.1⟩, x3.2)
def znf (l : List (AV U)) : Option (zJ × List (AV U)) := (rSl Ty.zH l).bind fun x0 => (rSl Ty.zM x0.2).bind fun x1 => (rSl Ty.zT x1.2).bind fun x2 => some (⟨x0.1, x1.1, x2.1⟩, x2.2)
def zu2 (l : List (AV U)) : Option (zX × List (AV U)) := (rSl (Ty.int .i64) l).bind fun x0 => some (⟨x0.1⟩, x0.2)
def zn0 (l : List (AV U)) : Option (Translation × List (AV U)) := (zn2 l).bind fun x0 => (znm x0.2).bind fun x1 => (zu2 x1.2).bind fun x2 => some (⟨x0.1, x1.1, x2.1⟩, x2.2)
def zm7 (l : List (AV U)) : Option (Optimization × List (AV U)) := (zn2 l).bind fun x0 => (znm x0.2).bind fun x1 => (znm x1.2).bind fun x2 => (zqo x2.2).bind fun x3 => some (⟨x0.1, x1.1, x2.1, x3.1⟩, x3.2)
def zif (l : List (AV U)) : Option (zG × List (AV U)) := (znf l).bind fun x0 => (rSl (Ty.int .i64) x0.2).bind fun x1 => (rSl Ty.zC x1.2).bind fun x2 => some (⟨x0.1, x1.1, x2.1⟩, x2.2)
def ztv (l : List (AV U)) : Option (zU × List (AV U)) := (zcc .i64 l).bind fun x0 => (zcc .i64 x0.2).bind fun x1 => some (⟨x0.1, x1.1⟩, x1.2)
def zm5 (l : List (AV U)) : Option (zN × List (AV U)) := (zfh l).bind fun x0 => (zfh x0.2).bind fun x1 => (zfh x1.2).bind fun x2 => (zfh x2.2).bind fun x3 => (zfh x3.2).bind fun x4 => (zfh x4.2).bind fun x5 => (zfh x5.2).bind fun x6 => (zfh x6.2).bind fun x7 => (zfh x7.2).bind fun x8 => (zfh x8.2).bind fun x9 => (zfh x9.2).bind fun x10 => (zfh x10.2).bind fun x11 => (zfh x11.2).bind fun x12 => (zfh x12.2).bind fun x13 => (zcc .i64 x13.2).bind fun x14 => (zcc .i64 x14.2).bind fun x15 => some (⟨x0.1, x1.1, x2.1, x3.1, x4.1, x5.1, x6.1, x7.1, x8.1, x9.1, x10.1, x11.1, x12.1, x13.1, x14.1, x15.1⟩, x15.2)
def zqp (l : List (AV U)) : Option (Address × List (AV U)) := (zcc .i64 l).bind fun x0 => (zcc .i64 x0.2).bind fun x1 => some (⟨x0.1, x1.1⟩, x1.2)
def ztu (l : List (AV U)) : Option (Pointer × List (AV U)) := (zcc .i64 l).bind fun x0 => (zqp x0.2).bind fun x1 => (zcc .i64 x1.2).bind fun x2 => some (⟨x0.1, x1.1, x2.1⟩, x2.2)
def zpu (x : zR) : List (AV U) := [.sc (.int .i64 x.fields), .sc (.int .i64 x.types)]
def zlx (x : zY) : List (AV U) := [.sc (.int .i64 x.x), .sc (.int .i64 x.y), .sc (.bool x.signed), .sc (.int .u8 x.code)]
def zir (x : zW) : List (AV U) := [.sc (.string x.msg), .sc (.int .u64 x.addr)]
def zyw (x : zI) : List (AV U) := [.sc (.int .i64 x.Registers), .sc (.bool x.yB), .sc (.bool x.zZ)]
def zyr (x : Storage) : List (AV U) := [.sc (.string x.Bytes), .lst Ty.bool x.Tags]
def zyv (x : zL) : List (AV U) := [.sc (.bool x.Based), .sc (.int .i64 x.Pointer), .sc (.int .i64 x.Offset)]
def zwr (x : DataType) : List (AV U) := [.sc (.int .i64 x.Kind), .sc (.int .i64 x.Length), .sc (.int .i64 x.Scale)]
def z0b (x : Number) : List (AV U) := [.sc (.int .i64 x.N), .sc (.int .i64 x.Scale)]
def zdd (x : zC) : List (AV U) := [.sc (.int .i64 x.Op), .sc (.int .i64 x.R), .sc (.int .i64 x.A), .sc (.int .i64 x.B), .sc (.int .i64 x.zO), .sc (.bool x.Place.Based), .sc (.int .i64 x.Place.Pointer), .sc (.int .i64 x.Place.Offset), .sc (.bool x.From.Based), .sc (.int .i64 x.From.Pointer), .sc (.int .i64 x.From.Offset), .sc (.int .i64 x.zD.Kind), .sc (.int .i64 x.zD.Length), .sc (.int .i64 x.zD.Scale), .sc (.int .i64 x.Second.Kind), .sc (.int .i64 x.Second.Length), .sc (.int .i64 x.Second.Scale), .sc (.bool x.Half), .sc (.bool x.zK), .sc (.int .i64 x.Number.N), .sc (.int .i64 x.Number.Scale), .sc (.string x.Text), .sc (.string x.Other), .sc (.int .i64 x.Mask), .sc (.int .i64 x.Target), .sc (.int .i64 x.Pointer), .sc (.int .i64 x.Source)]
def znr (x : zQ) : List (AV U) := [.sc (.int .i64 x.From), .sc (.int .i64 x.To), .sc (.int .i64 x.Exception), .sc (.int .i64 x.Handler)]
def zeu (x : zF) : List (AV U) := [.sc (.string x.Storage.Bytes), .lst Ty.bool x.Storage.Tags, .lst Ty.zC x.zA, .lst Ty.zQ x.zP]
def zpx (x : zB) : List (AV U) := [.sc (.int .i64 x.Register), .sc (.int .i64 x.zD.Kind), .sc (.int .i64 x.zD.Length), .sc (.int .i64 x.zD.Scale), .sc (.int .i64 x.Offset)]
def zyu (x : zV) : List (AV U) := [.lst (Ty.sl Ty.zB) x.Facts, .lst (Ty.int .i64) x.Index]
def z3n (x : Value) : List (AV U) := [.sc (.int .i64 x.N), .sc (.string x.S)]
def zvf (x : zH) : List (AV U) := [.sc (.string x.Name), .sc (.int .i64 x.Kind), .sc (.int .i64 x.zD.Kind), .sc (.int .i64 x.zD.Length), .sc (.int .i64 x.zD.Scale), .sc (.int .i64 x.Value.N), .sc (.string x.Value.S), .sc (.string x.Base), .sc (.int .i64 x.Offset), .sc (.int .i64 x.Target)]
def zpw (x : zM) : List (AV U) := [.sc (.int .i64 x.Op), .lst (Ty.int .i64) x.Args]
def zvg (x : zT) : List (AV U) := [.sc (.int .i64 x.From), .sc (.int .i64 x.To), .sc (.int .i64 x.Exception), .sc (.int .i64 x.Handler)]
def zve (x : zJ) : List (AV U) := [.lst Ty.zH x.zS, .lst Ty.zM x.zA, .lst Ty.zT x.yA]
def z3o (x : zX) : List (AV U) := [.lst (Ty.int .i64) x.Starts]
def zsa (x : Translation) : List (AV U) := [.sc (.int .i64 x.Model.Registers), .sc (.bool x.Model.yB), .sc (.bool x.Model.zZ), .sc (.string x.Code.Storage.Bytes), .lst Ty.bool x.Code.Storage.Tags, .lst Ty.zC x.Code.zA, .lst Ty.zQ x.Code.zP, .lst (Ty.int .i64) x.Map.Starts]
def zrj (x : Optimization) : List (AV U) := [.sc (.int .i64 x.Model.Registers), .sc (.bool x.Model.yB), .sc (.bool x.Model.zZ), .sc (.string x.Before.Storage.Bytes), .lst Ty.bool x.Before.Storage.Tags, .lst Ty.zC x.Before.zA, .lst Ty.zQ x.Before.zP, .sc (.string x.After.Storage.Bytes), .lst Ty.bool x.After.Storage.Tags, .lst Ty.zC x.After.zA, .lst Ty.zQ x.After.zP, .lst (Ty.sl Ty.zB) x.Proof.Facts, .lst (Ty.int .i64) x.Proof.Index]
def zld (x : zG) : List (AV U) := [.lst Ty.zH x.zJ.zS, .lst Ty.zM x.zJ.zA, .lst Ty.zT x.zJ.yA, .lst (Ty.int .i64) x.layout, .lst Ty.zC x.code]
def zyt (x : zU) : List (AV U) := [.sc (.int .i64 x.Part), .sc (.int .i64 x.Index)]
def zri (x : zN) : List (AV U) := [.sc (.bool x.R), .sc (.bool x.A), .sc (.bool x.B), .sc (.bool x.Place), .sc (.bool x.From), .sc (.bool x.Half), .sc (.bool x.Number), .sc (.bool x.zO), .sc (.bool x.Mask), .sc (.bool x.Target), .sc (.bool x.Text), .sc (.bool x.Other), .sc (.bool x.Pointer), .sc (.bool x.Source), .sc (.int .i64 x.zD), .sc (.int .i64 x.Second)]
def zyx (x : Address) : List (AV U) := [.sc (.int .i64 x.yC), .sc (.int .i64 x.Offset)]
def zys (x : Pointer) : List (AV U) := [.sc (.int .i64 x.Kind), .sc (.int .i64 x.Address.yC), .sc (.int .i64 x.Address.Offset), .sc (.int .i64 x.Authority)]
def z9j : (n : Nat) → z0u n → List (AV U)
 | 0, x => zpu x
 | 1, x => zlx x
 | 2, x => zir x
 | 3, x => zyw x
 | 4, x => zyr x
 | 5, x => zyv x
 | 6, x => zwr x
 | 7, x => z0b x
 | 8, x => zdd x
 | 9, x => znr x
 | 10, x => zeu x
 | 11, x => zpx x
 | 12, x => zyu x
 | 13, x => z3n x
 | 14, x => zvf x
 | 15, x => zpw x
 | 16, x => zvg x
 | 17, x => zve x
 | 18, x => z3o x
 | 19, x => zsa x
 | 20, x => zrj x
 | 21, x => zld x
 | 22, x => zyt x
 | 23, x => zri x
 | 24, x => zyx x
 | 25, x => zys x
 | _ + 26, _ => [.sc (.bool true)]
def z9p : (n : Nat) → List (AV U) → Option (z0u n × List (AV U))
 | 0, l => zl8 l
 | 1, l => ziu l
 | 2, l => zgd l
 | 3, l => zn2 l
 | 4, l => zql l
 | 5, l => zn1 l
 | 6, l => zju l
 | 7, l => zso l
 | 8, l => zmb l
 | 9, l => zvw l
 | 10, l => znm l
 | 11, l => zvx l
 | 12, l => zqo l
 | 13, l => zu1 l
 | 14, l => zqm l
 | 15, l => zma l
 | 16, l => zqn l
 | 17, l => znf l
 | 18, l => zu2 l
 | 19, l => zn0 l
 | 20, l => zm7 l
 | 21, l => zif l
 | 22, l => ztv l
 | 23, l => zm5 l
 | 24, l => zqp l
 | 25, l => ztu l
 | _ + 26, _ => none
def enc : (t : Ty) → den t → List (AV U)
 | .int k, n => [.sc (.int k n)]
 | .bool, b => [.sc (.bool b)]
 | .str, s => [.sc (.string s)]
 | .nil, _ => [.sc (.slice none 0 0)]
 | .sl t, xs => [.lst t xs]
 | .st n, x => z9j n x
def rd : (t : Ty) → List (AV U) → Option (den t × List (AV U))
 | .int k, l => zcc k l
 | .bool, l => zfh l
 | .str, l => zo7 l
 | .nil, l => z4p l
 | .sl t, l => rSl t l
 | .st n, l => z9p n l
def reify (t : Ty) (l : List (AV U)) : Option (den t) := (rd t l).bind fun r => match r.2 with
 | [] => some r.1
 | _ => none
def z9o : Nat → Nat
 | 0 => 2
 | 1 => 4
 | 2 => 2
 | 3 => 3
 | 4 => 2
 | 5 => 3
 | 6 => 3
 | 7 => 2
 | 8 => 27
 | 9 => 4
 | 10 => 4
 | 11 => 5
 | 12 => 2
 | 13 => 2
 | 14 => 10
 | 15 => 2
 | 16 => 4
 | 17 => 3
 | 18 => 1
 | 19 => 8
 | 20 => 13
 | 21 => 5
 | 22 => 2
 | 23 => 16
 | 24 => 2
 | 25 => 4
 | _ + 26 => 1
def z8j : Nat → Bool
 | 0 => true
 | 1 => true
 | 2 => true
 | 3 => true
 | 4 => false
 | 5 => true
 | 6 => true
 | 7 => true
 | 8 => true
 | 9 => true
 | 10 => false
 | 11 => true
 | 12 => false
 | 13 => true
 | 14 => true
 | 15 => false
 | 16 => true
 | 17 => false
 | 18 => false
 | 19 => false
 | 20 => false
 | 21 => false
 | 22 => true
 | 23 => true
 | 24 => true
 | 25 => true
 | _ + 26 => true
def szT : Ty → Nat
 | .st n => z9o n
 | _ => 1
def z8q : Ty → Bool
 | .st _ => true
 | _ => false
def z5p : Ty → Bool
 | .sl _ => false
 | .st n => z8j n
 | _ => true
def z5l : List (Nat × Ty) := [(2, (Ty.int .i64)), (3, (Ty.int .i64)), (4, Ty.bool), (5, (Ty.int .u8)), (6, (Ty.int .u8)), (8, Ty.zY), (9, Ty.str), (10, Ty.str), (11, Ty.str), (12, (Ty.int .u64)), (14, Ty.zW), (21, (Ty.int .i32)), (23, Ty.zI), (24, (Ty.sl Ty.bool)), (26, Ty.Storage), (27, (Ty.sl Ty.zC)), (28, (Ty.sl Ty.zQ)), (30, Ty.zF), (33, (Ty.sl (Ty.sl Ty.zB))), (34, (Ty.int .i64)), (43, (Ty.sl (Ty.int .i64))), (45, Ty.zV), (49, Ty.zL), (51, Ty.DataType), (53, Ty.Number), (55, Ty.zC), (56, (Ty.sl Ty.zH)), (57, (Ty.sl Ty.zM)), (58, (Ty.sl Ty.zT)), (60, Ty.zJ), (62, Ty.zX), (64, Ty.Translation), (75, Ty.Optimization), (88, (Ty.sl Ty.zB)), (97, Ty.zB), (107, Ty.Value), (109, Ty.zH), (111, Ty.zM), (123, Ty.zQ), (129, Ty.zT), (141, Ty.zG), (158, (Ty.sl (Ty.int .i64))), (160, Ty.zU), (182, (Ty.sl (Ty.int .u8))), (194, Ty.zN), (226, Ty.Address), (228, Ty.Pointer), (234, Ty.zR), (252, (Ty.int .u64)), (287, (Ty.int .u32)), (290, (Ty.int .u64)), (303, (Ty.int .i64)), (312, (Ty.int .u64)), (324, (Ty.int .u8)), (325, (Ty.int .u8)), (327, (Ty.int .i32)), (328, (Ty.int .i32))]
def En : Enc U := { sz := szT, agg := z8q, flat := z5p, enc := enc, reify := reify, ofGo := pick z5l, sl := Ty.sl, toSl := fun _ xs => xs, ofSl := fun _ xs => xs, u8 := .int .u8, ofInts := fun l => l, toInts := fun l => l }
def z1f : List (List Int) := [[0, 4], [2, 3], [2, 3, 3], [2, 3, 3], [2, 3, 3], [2, 3, 3], [2, 3, 3], [1, 4, 6], [1, 4, 6], [6], [5, 0], [5, 5], [5, 3], [6], [], [3], [2], [1], []]
def z1g : List zR := [⟨41, 1⟩, ⟨169, 1⟩, ⟨257, 0⟩, ⟨3, 0⟩, ⟨32807, 1⟩, ⟨6, 0⟩, ⟨6144, 0⟩, ⟨6150, 0⟩, ⟨4096, 0⟩, ⟨120, 2⟩, ⟨552, 2⟩, ⟨120, 2⟩, ⟨552, 2⟩, ⟨1536, 0⟩, ⟨8232, 3⟩, ⟨24576, 0⟩, ⟨8193, 0⟩, ⟨8192, 0⟩, ⟨4096, 0⟩, ⟨0, 0⟩, ⟨1, 0⟩, ⟨1, 0⟩, ⟨1, 0⟩, ⟨40, 2⟩, ⟨512, 0⟩, ⟨0, 0⟩, ⟨0, 0⟩]
def globs : List (Nat × AV U) := [(0, .rarr (Ty.sl (Ty.int .i64)) z1f), (1, .rarr Ty.zR z1g)]
def zpd (O : List (Nat × Ct U)) (X : List (Nat × Nat)) (J : List (Nat × Amx.Spec U × List Ty)) (pre : List (Nat × List Nat)) (lits ro pk bj : List Nat) : Ctx U :=
 { P := Proofs.Tryz.prog, En := En, G := pick globs, O := pick O, X := pick X, joins := pick J, pre := fun r => (pick pre r).getD [], lits := lits, ro := ro, pk := pk, bj := bj }
theorem za0 (k : IntKind) : Sp (U := U) (zcc k) (fun n : Int => [.sc (.int k n)]) := fun l x r h => by
 unfold zcc at h
 split at h
 · split at h
   · rename_i e; cases h; subst e; exact ⟨[_], rfl, F2.refl_ref _⟩
   · cases h
 · cases h
theorem zdt : Sp (U := U) zfh (fun b : Bool => [.sc (.bool b)]) := fun l x r h => by
 unfold zfh at h
 split at h
 · cases h; exact ⟨[_], rfl, F2.refl_ref _⟩
 · cases h
theorem zmw : Sp (U := U) zo7 (fun s : ByteArray => [.sc (.string s)]) := fun l x r h => by
 unfold zo7 at h
 split at h
 · cases h; exact ⟨[_], rfl, F2.refl_ref _⟩
 · cases h
theorem z7r : Sp (U := U) z4p (fun _ : Unit => [.sc (.slice none 0 0)]) := fun l x r h => by
 unfold z4p at h
 split at h
 · cases h; exact ⟨[_], rfl, F2.refl_ref _⟩
 · cases h
theorem zj4 (t : Ty) : Sp (U := U) (rSl t) (fun xs : List (den t) => [.lst t xs]) := fun l x r h => by
 unfold rSl at h
 split at h
 · rw [Option.map_eq_some_iff] at h; obtain ⟨⟨e⟩, _, h2⟩ := h; cases e; cases h2; exact ⟨[_], rfl, F2.refl_ref _⟩
 · cases h; exact ⟨[_], rfl, .cons (.inr ⟨rfl, _, rfl⟩) .nil⟩
 · cases h
theorem ztj : Sp (U := U) zl8 zpu := fun l x r h => by
 unfold zl8 at h
 obtain ⟨x0, r0, p0, e0, f0, h⟩ := (za0 .i64).step h
 obtain ⟨x1, r1, p1, (e1 : r0 = p1 ++ r1), f1, h⟩ := (za0 .i64).step h
 cases h
 exact ⟨(p0 ++ p1), by rw [e0, e1]; simp only [List.append_assoc], (f0.append f1)⟩
theorem zo3 : Sp (U := U) ziu zlx := fun l x r h => by
 unfold ziu at h
 obtain ⟨x0, r0, p0, e0, f0, h⟩ := (za0 .i64).step h
 obtain ⟨x1, r1, p1, (e1 : r0 = p1 ++ r1), f1, h⟩ := (za0 .i64).step h
 obtain ⟨x2, r2, p2, (e2 : r1 = p2 ++ r2), f2, h⟩ := zdt.step h
 obtain ⟨x3, r3, p3, (e3 : r2 = p3 ++ r3), f3, h⟩ := (za0 .u8).step h
 cases h
 exact ⟨(p0 ++ (p1 ++ (p2 ++ p3))), by rw [e0, e1, e2, e3]; simp only [List.append_assoc], (f0.append (f1.append (f2.append f3)))⟩
theorem zl2 : Sp (U := U) zgd zir := fun l x r h => by
 unfold zgd at h
 obtain ⟨x0, r0, p0, e0, f0, h⟩ := zmw.step h
 obtain ⟨x1, r1, p1, (e1 : r0 = p1 ++ r1), f1, h⟩ := (za0 .u64).step h
 cases h
 exact ⟨(p0 ++ p1), by rw [e0, e1]; simp only [List.append_assoc], (f0.append f1)⟩
theorem zqe : Sp (U := U) zn2 zyw := fun l x r h => by
 unfold zn2 at h
 obtain ⟨x0, r0, p0, e0, f0, h⟩ := (za0 .i64).step h
 obtain ⟨x1, r1, p1, (e1 : r0 = p1 ++ r1), f1, h⟩ := zdt.step h
 obtain ⟨x2, r2, p2, (e2 : r1 = p2 ++ r2), f2, h⟩ := zdt.step h
 cases h
 exact ⟨(p0 ++ (p1 ++ p2)), by rw [e0, e1, e2]; simp only [List.append_assoc], (f0.append (f1.append f2))⟩
theorem zuj : Sp (U := U) zql zyr := fun l x r h => by
 unfold zql at h
 obtain ⟨x0, r0, p0, e0, f0, h⟩ := zmw.step h
 obtain ⟨x1, r1, p1, (e1 : r0 = p1 ++ r1), f1, h⟩ := (zj4 Ty.bool).step h
 cases h
 exact ⟨(p0 ++ p1), by rw [e0, e1]; simp only [List.append_assoc], (f0.append f1)⟩
theorem zqd : Sp (U := U) zn1 zyv := fun l x r h => by
 unfold zn1 at h
 obtain ⟨x0, r0, p0, e0, f0, h⟩ := zdt.step h
 obtain ⟨x1, r1, p1, (e1 : r0 = p1 ++ r1), f1, h⟩ := (za0 .i64).step h
 obtain ⟨x2, r2, p2, (e2 : r1 = p2 ++ r2), f2, h⟩ := (za0 .i64).step h
 cases h
 exact ⟨(p0 ++ (p1 ++ p2)), by rw [e0, e1, e2]; simp only [List.append_assoc], (f0.append (f1.append f2))⟩
theorem zkl : Sp (U := U) zju zwr := fun l x r h => by
 unfold zju at h
 obtain ⟨x0, r0, p0, e0, f0, h⟩ := (za0 .i64).step h
 obtain ⟨x1, r1, p1, (e1 : r0 = p1 ++ r1), f1, h⟩ := (za0 .i64).step h
 obtain ⟨x2, r2, p2, (e2 : r1 = p2 ++ r2), f2, h⟩ := (za0 .i64).step h
 cases h
 exact ⟨(p0 ++ (p1 ++ p2)), by rw [e0, e1, e2]; simp only [List.append_assoc], (f0.append (f1.append f2))⟩
theorem zwg : Sp (U := U) zso z0b := fun l x r h => by
 unfold zso at h
 obtain ⟨x0, r0, p0, e0, f0, h⟩ := (za0 .i64).step h
 obtain ⟨x1, r1, p1, (e1 : r0 = p1 ++ r1), f1, h⟩ := (za0 .i64).step h
 cases h
 exact ⟨(p0 ++ p1), by rw [e0, e1]; simp only [List.append_assoc], (f0.append f1)⟩
theorem ztl : Sp (U := U) zmb zdd := fun l x r h => by
 unfold zmb at h
 obtain ⟨x0, r0, p0, e0, f0, h⟩ := (za0 .i64).step h
 obtain ⟨x1, r1, p1, (e1 : r0 = p1 ++ r1), f1, h⟩ := (za0 .i64).step h
 obtain ⟨x2, r2, p2, (e2 : r1 = p2 ++ r2), f2, h⟩ := (za0 .i64).step h
 obtain ⟨x3, r3, p3, (e3 : r2 = p3 ++ r3), f3, h⟩ := (za0 .i64).step h
 obtain ⟨x4, r4, p4, (e4 : r3 = p4 ++ r4), f4, h⟩ := (za0 .i64).step h
 obtain ⟨x5, r5, p5, (e5 : r4 = p5 ++ r5), f5, h⟩ := zqd.step h
 obtain ⟨x6, r6, p6, (e6 : r5 = p6 ++ r6), f6, h⟩ := zqd.step h
 obtain ⟨x7, r7, p7, (e7 : r6 = p7 ++ r7), f7, h⟩ := zkl.step h
 obtain ⟨x8, r8, p8, (e8 : r7 = p8 ++ r8), f8, h⟩ := zkl.step h
 obtain ⟨x9, r9, p9, (e9 : r8 = p9 ++ r9), f9, h⟩ := zdt.step h
 obtain ⟨x10, r10, p10, (e10 : r9 = p10 ++ r10), f10, h⟩ := zdt.step h
 obtain ⟨x11, r11, p11, (e11 : r10 = p11 ++ r11), f11, h⟩ := zwg.step h
 obtain ⟨x12, r12, p12, (e12 : r11 = p12 ++ r12), f12, h⟩ := zmw.step h
 obtain ⟨x13, r13, p13, (e13 : r12 = p13 ++ r13), f13, h⟩ := zmw.step h
 obtain ⟨x14, r14, p14, (e14 : r13 = p14 ++ r14), f14, h⟩ := (za0 .i64).step h
 obtain ⟨x15, r15, p15, (e15 : r14 = p15 ++ r15), f15, h⟩ := (za0 .i64).step h
 obtain ⟨x16, r16, p16, (e16 : r15 = p16 ++ r16), f16, h⟩ := (za0 .i64).step h
 obtain ⟨x17, r17, p17, (e17 : r16 = p17 ++ r17), f17, h⟩ := (za0 .i64).step h
 cases h
 exact ⟨(p0 ++ (p1 ++ (p2 ++ (p3 ++ (p4 ++ (p5 ++ (p6 ++ (p7 ++ (p8 ++ (p9 ++ (p10 ++ (p11 ++ (p12 ++ (p13 ++ (p14 ++ (p15 ++ (p16 ++ p17))))))))))))))))), by rw [e0, e1, e2, e3, e4, e5, e6, e7, e8, e9, e10, e11, e12, e13, e14, e15, e16, e17]; simp only [List.append_assoc], (f0.append (f1.append (f2.append (f3.append (f4.append (f5.append (f6.append (f7.append (f8.append (f9.append (f10.append (f11.append (f12.append (f13.append (f14.append (f15.append (f16.append f17)))))))))))))))))⟩
theorem z2c : Sp (U := U) zvw znr := fun l x r h => by
 unfold zvw at h
 obtain ⟨x0, r0, p0, e0, f0, h⟩ := (za0 .i64).step h
 obtain ⟨x1, r1, p1, (e1 : r0 = p1 ++ r1), f1, h⟩ := (za0 .i64).step h
 obtain ⟨x2, r2, p2, (e2 : r1 = p2 ++ r2), f2, h⟩ := (za0 .i64).step h
 obtain ⟨x3, r3, p3, (e3 : r2 = p3 ++ r3), f3, h⟩ := (za0 .i64).step h
 cases h
 exact ⟨(p0 ++ (p1 ++ (p2 ++ p3))), by rw [e0, e1, e2, e3]; simp only [List.append_assoc], (f0.append (f1.append (f2.append f3)))⟩
theorem zoi : Sp (U := U) znm zeu := fun l x r h => by
 unfold znm at h
 obtain ⟨x0, r0, p0, e0, f0, h⟩ := zuj.step h
 obtain ⟨x1, r1, p1, (e1 : r0 = p1 ++ r1), f1, h⟩ := (zj4 Ty.zC).step h
 obtain ⟨x2, r2, p2, (e2 : r1 = p2 ++ r2), f2, h⟩ := (zj4 Ty.zQ).step h
 cases h
 exact ⟨(p0 ++ (p1 ++ p2)), by rw [e0, e1, e2]; simp only [List.append_assoc], (f0.append (f1.append f2))⟩
theorem z2d : Sp (U := U) zvx zpx := fun l x r h => by
 unfold zvx at h
 obtain ⟨x0, r0, p0, e0, f0, h⟩ := (za0 .i64).step h
 obtain ⟨x1, r1, p1, (e1 : r0 = p1 ++ r1), f1, h⟩ := zkl.step h
 obtain ⟨x2, r2, p2, (e2 : r1 = p2 ++ r2), f2, h⟩ := (za0 .i64).step h
 cases h
 exact ⟨(p0 ++ (p1 ++ p2)), by rw [e0, e1, e2]; simp only [List.append_assoc], (f0.append (f1.append f2))⟩
theorem zul : Sp (U := U) zqo zyu := fun l x r h => by
 unfold zqo at h
 obtain ⟨x0, r0, p0, e0, f0, h⟩ := (zj4 (Ty.sl Ty.zB)).step h
 obtain ⟨x1, r1, p1, (e1 : r0 = p1 ++ r1), f1, h⟩ := (zj4 (Ty.int .i64)).step h
 cases h
 exact ⟨(p0 ++ p1), by rw [e0, e1]; simp only [List.append_assoc], (f0.append f1)⟩
theorem zxj : Sp (U := U) zu1 z3n := fun l x r h => by
 unfold zu1 at h
 obtain ⟨x0, r0, p0, e0, f0, h⟩ := (za0 .i64).step h
 obtain ⟨x1, r1, p1, (e1 : r0 = p1 ++ r1), f1, h⟩ := zmw.step h
 cases h
 exact ⟨(p0 ++ p1), by rw [e0, e1]; simp only [List.append_assoc], (f0.append f1)⟩
theorem zxk : Sp (U := U) zqm zvf := fun l x r h => by
 unfold zqm at h
 obtain ⟨x0, r0, p0, e0, f0, h⟩ := zmw.step h
 obtain ⟨x1, r1, p1, (e1 : r0 = p1 ++ r1), f1, h⟩ := (za0 .i64).step h
 obtain ⟨x2, r2, p2, (e2 : r1 = p2 ++ r2), f2, h⟩ := zkl.step h
 obtain ⟨x3, r3, p3, (e3 : r2 = p3 ++ r3), f3, h⟩ := zxj.step h
 obtain ⟨x4, r4, p4, (e4 : r3 = p4 ++ r4), f4, h⟩ := zmw.step h
 obtain ⟨x5, r5, p5, (e5 : r4 = p5 ++ r5), f5, h⟩ := (za0 .i64).step h
 obtain ⟨x6, r6, p6, (e6 : r5 = p6 ++ r6), f6, h⟩ := (za0 .i64).step h
 cases h
 exact ⟨(p0 ++ (p1 ++ (p2 ++ (p3 ++ (p4 ++ (p5 ++ p6)))))), by rw [e0, e1, e2, e3, e4, e5, e6]; simp only [List.append_assoc], (f0.append (f1.append (f2.append (f3.append (f4.append (f5.append f6))))))⟩
theorem ztk : Sp (U := U) zma zpw := fun l x r h => by
 unfold zma at h
 obtain ⟨x0, r0, p0, e0, f0, h⟩ := (za0 .i64).step h
 obtain ⟨x1, r1, p1, (e1 : r0 = p1 ++ r1), f1, h⟩ := (zj4 (Ty.int .i64)).step h
 cases h
 exact ⟨(p0 ++ p1), by rw [e0, e1]; simp only [List.append_assoc], (f0.append f1)⟩
theorem zxl : Sp (U := U) zqn zvg := fun l x r h => by
 unfold zqn at h
 obtain ⟨x0, r0, p0, e0, f0, h⟩ := (za0 .i64).step h
 obtain ⟨x1, r1, p1, (e1 : r0 = p1 ++ r1), f1, h⟩ := (za0 .i64).step h
 obtain ⟨x2, r2, p2, (e2 : r1 = p2 ++ r2), f2, h⟩ := (za0 .i64).step h
 obtain ⟨x3, r3, p3, (e3 : r2 = p3 ++ r3), f3, h⟩ := (za0 .i64).step h
 cases h
 exact ⟨(p0 ++ (p1 ++ (p2 ++ p3))), by rw [e0, e1, e2, e3]; simp only [List.append_assoc], (f0.append (f1.append (f2.append f3)))⟩
theorem zrq : Sp (U := U) znf zve := fun l x r h => by
 unfold znf at h
 obtain ⟨x0, r0, p0, e0, f0, h⟩ := (zj4 Ty.zH).step h
 obtain ⟨x1, r1, p1, (e1 : r0 = p1 ++ r1), f1, h⟩ := (zj4 Ty.zM).step h
 obtain ⟨x2, r2, p2, (e2 : r1 = p2 ++ r2), f2, h⟩ := (zj4 Ty.zT).step h
 cases h
 exact ⟨(p0 ++ (p1 ++ p2)), by rw [e0, e1, e2]; simp only [List.append_assoc], (f0.append (f1.append f2))⟩
theorem zxm : Sp (U := U) zu2 z3o := fun l x r h => by
 unfold zu2 at h
 obtain ⟨x0, r0, p0, e0, f0, h⟩ := (zj4 (Ty.int .i64)).step h
 cases h
 exact ⟨p0, by rw [e0], f0⟩
theorem zvr : Sp (U := U) zn0 zsa := fun l x r h => by
 unfold zn0 at h
 obtain ⟨x0, r0, p0, e0, f0, h⟩ := zqe.step h
 obtain ⟨x1, r1, p1, (e1 : r0 = p1 ++ r1), f1, h⟩ := zoi.step h
 obtain ⟨x2, r2, p2, (e2 : r1 = p2 ++ r2), f2, h⟩ := zxm.step h
 cases h
 exact ⟨(p0 ++ (p1 ++ p2)), by rw [e0, e1, e2]; simp only [List.append_assoc], (f0.append (f1.append f2))⟩
theorem zuk : Sp (U := U) zm7 zrj := fun l x r h => by
 unfold zm7 at h
 obtain ⟨x0, r0, p0, e0, f0, h⟩ := zqe.step h
 obtain ⟨x1, r1, p1, (e1 : r0 = p1 ++ r1), f1, h⟩ := zoi.step h
 obtain ⟨x2, r2, p2, (e2 : r1 = p2 ++ r2), f2, h⟩ := zoi.step h
 obtain ⟨x3, r3, p3, (e3 : r2 = p3 ++ r3), f3, h⟩ := zul.step h
 cases h
 exact ⟨(p0 ++ (p1 ++ (p2 ++ p3))), by rw [e0, e1, e2, e3]; simp only [List.append_assoc], (f0.append (f1.append (f2.append f3)))⟩
theorem zoe : Sp (U := U) zif zld := fun l x r h => by
 unfold zif at h
 obtain ⟨x0, r0, p0, e0, f0, h⟩ := zrq.step h
 obtain ⟨x1, r1, p1, (e1 : r0 = p1 ++ r1), f1, h⟩ := (zj4 (Ty.int .i64)).step h
 obtain ⟨x2, r2, p2, (e2 : r1 = p2 ++ r2), f2, h⟩ := (zj4 Ty.zC).step h
 cases h
 exact ⟨(p0 ++ (p1 ++ p2)), by rw [e0, e1, e2]; simp only [List.append_assoc], (f0.append (f1.append f2))⟩
theorem z0w : Sp (U := U) ztv zyt := fun l x r h => by
 unfold ztv at h
 obtain ⟨x0, r0, p0, e0, f0, h⟩ := (za0 .i64).step h
 obtain ⟨x1, r1, p1, (e1 : r0 = p1 ++ r1), f1, h⟩ := (za0 .i64).step h
 cases h
 exact ⟨(p0 ++ p1), by rw [e0, e1]; simp only [List.append_assoc], (f0.append f1)⟩
theorem zui : Sp (U := U) zm5 zri := fun l x r h => by
 unfold zm5 at h
 obtain ⟨x0, r0, p0, e0, f0, h⟩ := zdt.step h
 obtain ⟨x1, r1, p1, (e1 : r0 = p1 ++ r1), f1, h⟩ := zdt.step h
 obtain ⟨x2, r2, p2, (e2 : r1 = p2 ++ r2), f2, h⟩ := zdt.step h
 obtain ⟨x3, r3, p3, (e3 : r2 = p3 ++ r3), f3, h⟩ := zdt.step h
 obtain ⟨x4, r4, p4, (e4 : r3 = p4 ++ r4), f4, h⟩ := zdt.step h
 obtain ⟨x5, r5, p5, (e5 : r4 = p5 ++ r5), f5, h⟩ := zdt.step h
 obtain ⟨x6, r6, p6, (e6 : r5 = p6 ++ r6), f6, h⟩ := zdt.step h
 obtain ⟨x7, r7, p7, (e7 : r6 = p7 ++ r7), f7, h⟩ := zdt.step h
 obtain ⟨x8, r8, p8, (e8 : r7 = p8 ++ r8), f8, h⟩ := zdt.step h
 obtain ⟨x9, r9, p9, (e9 : r8 = p9 ++ r9), f9, h⟩ := zdt.step h
 obtain ⟨x10, r10, p10, (e10 : r9 = p10 ++ r10), f10, h⟩ := zdt.step h
 obtain ⟨x11, r11, p11, (e11 : r10 = p11 ++ r11), f11, h⟩ := zdt.step h
 obtain ⟨x12, r12, p12, (e12 : r11 = p12 ++ r12), f12, h⟩ := zdt.step h
 obtain ⟨x13, r13, p13, (e13 : r12 = p13 ++ r13), f13, h⟩ := zdt.step h
 obtain ⟨x14, r14, p14, (e14 : r13 = p14 ++ r14), f14, h⟩ := (za0 .i64).step h
 obtain ⟨x15, r15, p15, (e15 : r14 = p15 ++ r15), f15, h⟩ := (za0 .i64).step h
 cases h
 exact ⟨(p0 ++ (p1 ++ (p2 ++ (p3 ++ (p4 ++ (p5 ++ (p6 ++ (p7 ++ (p8 ++ (p9 ++ (p10 ++ (p11 ++ (p12 ++ (p13 ++ (p14 ++ p15))))))))))))))), by rw [e0, e1, e2, e3, e4, e5, e6, e7, e8, e9, e10, e11, e12, e13, e14, e15]; simp only [List.append_assoc], (f0.append (f1.append (f2.append (f3.append (f4.append (f5.append (f6.append (f7.append (f8.append (f9.append (f10.append (f11.append (f12.append (f13.append (f14.append f15)))))))))))))))⟩
theorem zum : Sp (U := U) zqp zyx := fun l x r h => by
 unfold zqp at h
 obtain ⟨x0, r0, p0, e0, f0, h⟩ := (za0 .i64).step h
 obtain ⟨x1, r1, p1, (e1 : r0 = p1 ++ r1), f1, h⟩ := (za0 .i64).step h
 cases h
 exact ⟨(p0 ++ p1), by rw [e0, e1]; simp only [List.append_assoc], (f0.append f1)⟩
theorem z0v : Sp (U := U) ztu zys := fun l x r h => by
 unfold ztu at h
 obtain ⟨x0, r0, p0, e0, f0, h⟩ := (za0 .i64).step h
 obtain ⟨x1, r1, p1, (e1 : r0 = p1 ++ r1), f1, h⟩ := zum.step h
 obtain ⟨x2, r2, p2, (e2 : r1 = p2 ++ r2), f2, h⟩ := (za0 .i64).step h
 cases h
 exact ⟨(p0 ++ (p1 ++ p2)), by rw [e0, e1, e2]; simp only [List.append_assoc], (f0.append (f1.append f2))⟩
theorem sp : ∀ t : Ty, Sp (U := U) (rd t) (enc t)
 | .int k => za0 k
 | .bool => zdt
 | .str => zmw
 | .nil => z7r
 | .sl t => zj4 t
 | .st 0 => ztj
 | .st 1 => zo3
 | .st 2 => zl2
 | .st 3 => zqe
 | .st 4 => zuj
 | .st 5 => zqd
 | .st 6 => zkl
 | .st 7 => zwg
 | .st 8 => ztl
 | .st 9 => z2c
 | .st 10 => zoi
 | .st 11 => z2d
 | .st 12 => zul
 | .st 13 => zxj
 | .st 14 => zxk
 | .st 15 => ztk
 | .st 16 => zxl
 | .st 17 => zrq
 | .st 18 => zxm
 | .st 19 => zvr
 | .st 20 => zuk
 | .st 21 => zoe
 | .st 22 => z0w
 | .st 23 => zui
 | .st 24 => zum
 | .st 25 => z0v
 | .st (_ + 26) => fun l x r h => by cases h
theorem z5c : ∀ (t : Ty) (x : den t), (enc t x).length = szT t
 | .int _, _ => rfl
 | .bool, _ => rfl
 | .str, _ => rfl
 | .nil, _ => rfl
 | .sl _, _ => rfl
 | .st 0, _ => rfl
 | .st 1, _ => rfl
 | .st 2, _ => rfl
 | .st 3, _ => rfl
 | .st 4, _ => rfl
 | .st 5, _ => rfl
 | .st 6, _ => rfl
 | .st 7, _ => rfl
 | .st 8, _ => rfl
 | .st 9, _ => rfl
 | .st 10, _ => rfl
 | .st 11, _ => rfl
 | .st 12, _ => rfl
 | .st 13, _ => rfl
 | .st 14, _ => rfl
 | .st 15, _ => rfl
 | .st 16, _ => rfl
 | .st 17, _ => rfl
 | .st 18, _ => rfl
 | .st 19, _ => rfl
 | .st 20, _ => rfl
 | .st 21, _ => rfl
 | .st 22, _ => rfl
 | .st 23, _ => rfl
 | .st 24, _ => rfl
 | .st 25, _ => rfl
 | .st (_ + 26), _ => rfl
theorem z71 : ∀ t : Ty, 0 < szT t
 | .int _ => Nat.one_pos
 | .bool => Nat.one_pos
 | .str => Nat.one_pos
 | .nil => Nat.one_pos
 | .sl _ => Nat.one_pos
 | .st 0 => (by decide : 0 < 2)
 | .st 1 => (by decide : 0 < 4)
 | .st 2 => (by decide : 0 < 2)
 | .st 3 => (by decide : 0 < 3)
 | .st 4 => (by decide : 0 < 2)
 | .st 5 => (by decide : 0 < 3)
 | .st 6 => (by decide : 0 < 3)
 | .st 7 => (by decide : 0 < 2)
 | .st 8 => (by decide : 0 < 27)
 | .st 9 => (by decide : 0 < 4)
 | .st 10 => (by decide : 0 < 4)
 | .st 11 => (by decide : 0 < 5)
 | .st 12 => (by decide : 0 < 2)
 | .st 13 => (by decide : 0 < 2)
 | .st 14 => (by decide : 0 < 10)
 | .st 15 => (by decide : 0 < 2)
 | .st 16 => (by decide : 0 < 4)
 | .st 17 => (by decide : 0 < 3)
 | .st 18 => (by decide : 0 < 1)
 | .st 19 => (by decide : 0 < 8)
 | .st 20 => (by decide : 0 < 13)
 | .st 21 => (by decide : 0 < 5)
 | .st 22 => (by decide : 0 < 2)
 | .st 23 => (by decide : 0 < 16)
 | .st 24 => (by decide : 0 < 2)
 | .st 25 => (by decide : 0 < 4)
 | .st (_ + 26) => Nat.one_pos
theorem z9i : ∀ (t : Ty) (x : den t), (enc t x).all (fzc (U := U)) = true
 | .int _, _ => rfl
 | .bool, _ => rfl
 | .str, _ => rfl
 | .nil, _ => rfl
 | .sl _, _ => rfl
 | .st 0, _ => rfl
 | .st 1, _ => rfl
 | .st 2, _ => rfl
 | .st 3, _ => rfl
 | .st 4, _ => rfl
 | .st 5, _ => rfl
 | .st 6, _ => rfl
 | .st 7, _ => rfl
 | .st 8, _ => rfl
 | .st 9, _ => rfl
 | .st 10, _ => rfl
 | .st 11, _ => rfl
 | .st 12, _ => rfl
 | .st 13, _ => rfl
 | .st 14, _ => rfl
 | .st 15, _ => rfl
 | .st 16, _ => rfl
 | .st 17, _ => rfl
 | .st 18, _ => rfl
 | .st 19, _ => rfl
 | .st 20, _ => rfl
 | .st 21, _ => rfl
 | .st 22, _ => rfl
 | .st 23, _ => rfl
 | .st 24, _ => rfl
 | .st 25, _ => rfl
 | .st (_ + 26), _ => rfl
theorem z62 : ∀ t : Ty, z5p t = true → ∀ x : den t, (enc t x).all (z2e (U := U)) = true
 | .int _, _, _ => rfl
 | .bool, _, _ => rfl
 | .str, _, _ => rfl
 | .nil, _, _ => rfl
 | .sl _, h, _ => by cases h
 | .st 0, _, _ => rfl
 | .st 1, _, _ => rfl
 | .st 2, _, _ => rfl
 | .st 3, _, _ => rfl
 | .st 4, h, _ => by cases h
 | .st 5, _, _ => rfl
 | .st 6, _, _ => rfl
 | .st 7, _, _ => rfl
 | .st 8, _, _ => rfl
 | .st 9, _, _ => rfl
 | .st 10, h, _ => by cases h
 | .st 11, _, _ => rfl
 | .st 12, h, _ => by cases h
 | .st 13, _, _ => rfl
 | .st 14, _, _ => rfl
 | .st 15, h, _ => by cases h
 | .st 16, _, _ => rfl
 | .st 17, h, _ => by cases h
 | .st 18, h, _ => by cases h
 | .st 19, h, _ => by cases h
 | .st 20, h, _ => by cases h
 | .st 21, h, _ => by cases h
 | .st 22, _, _ => rfl
 | .st 23, _, _ => rfl
 | .st 24, _, _ => rfl
 | .st 25, _, _ => rfl
 | .st (_ + 26), _, _ => rfl
theorem z75 : ∀ t : Ty, z8q t = false → szT t = 1
 | .int _, _ => rfl
 | .bool, _ => rfl
 | .str, _ => rfl
 | .nil, _ => rfl
 | .sl _, _ => rfl
 | .st _, h => by cases h
theorem zke : ELaws En where
 sz := z5c
 pos := z71
 fz := fun t x c hc => z41 (z0i (z9i t x) hc)
 one := z75
 reify := fun t cs x h => by
  have h' : reify t cs = some x := h; unfold reify at h'; rw [Option.bind_eq_some_iff] at h'; obtain ⟨⟨y, r⟩, h1, h2⟩ := h'; cases r with
  | cons => cases h2
  | nil =>
   cases h2; obtain ⟨p, e, f⟩ := sp t cs _ _ h1; rw [List.append_nil] at e; subst e; exact ⟨f.length.trans (z5c t _), fun j c c' g1 g2 => f.get j c c' g1 g2⟩
 flat := fun t ht x c hc => zzf (z0i (z62 t ht x) hc)
 slAgg := fun _ => rfl
 slEnc := fun _ _ => rfl
 ofTo := fun _ _ => rfl
 u8sz := rfl
 u8 := fun x => ⟨x, rfl⟩
 toInts := fun xs i x n h1 h2 => by cases h2; exact h1
 toIntsLen := fun _ => rfl
 ofInts := fun l i n h => ⟨n, h, rfl⟩
 ofIntsLen := fun _ => rfl
theorem zw6 {O : List (Nat × Ct U)} {X : List (Nat × Nat)} {J : List (Nat × Amx.Spec U × List Ty)} {pre : List (Nat × List Nat)} {lits ro pk bj : List Nat} : CLaws (zpd O X J pre lits ro pk bj) :=
 z44 zke (l := z5l) rfl (by kernel_rfl)
def ctv (ps : List (Md U)) (res outs : List Ty) (fr : List Nat) (ts : List Ty) (f : Fnc U ts (PT U (res ++ outs))) : Ct U := { params := ps, results := res, outs := outs, fresh := fr, fn := app U ts f }
def cvv (res ts : List Ty) (f : Fnc U ts (PT U (res ++ []))) : Ct U := ctv (ts.map .val) res [] [] ts f
def K0 : Ctx U := zpd [] [] [] [] [] [] [] []
@[reducible] def Kq : Type := Kp K0
structure Cf where
 X : List (Nat × Nat) := []
 J : List (Nat × Amx.Spec U × List Ty) := []
 pre : List (Nat × List Nat) := []
 lits : List Nat := []
 ro : List Nat := []
 pk : List Nat := []
 bj : List Nat := []
def cxo (l : List Kq) (c : Cf) : Ctx U := zpd (Osk l) c.X c.J c.pre c.lits c.ro c.pk c.bj
theorem go (l : List Kq) (c : Cf) {f : FuncId} {fn : Func} {ps : List (Md U)} {res outs : List Ty} {fr : List Nat} {ts : List Ty} {F : Fnc U ts (PT U (res ++ outs))} (L : List (Nat × Cut U (PT U ((ctv ps res outs fr ts F).results ++ (ctv ps res outs fr ts F).outs)))) (hf : Proofs.Tryz.prog.funcs[f]? = some fn) (hn : ((fn.name == "runtime.NumGoroutine") || !fn.body.isSome) = false := by kernel_rfl)
 (hok : zvd (cxo l c) (ctv ps res outs fr ts F) = fun _ => true := by kernel_rfl) (hr : (cur ts (z4g (cxo l c) fn (ctv ps res outs fr ts F) (pick L)) : Fnc U ts (PT U (res ++ outs))) = F := by kernel_rfl) (hL : Ls (cxo l c) fn (ctv ps res outs fr ts F) (pick L) L := by exact trivial) (hX : ∀ p ∈ c.X, z8s Proofs.Tryz.prog p := by exact all_nil) : zhl K0 f (ctv ps res outs fr ts F) := by
 rw [Bool.or_eq_false_iff] at hn
 exact zhl.ctx (C := cxo l c) (C' := K0) rfl rfl rfl (z26 (C := cxo l c) zw6 (z9b (C := cxo l c) (C0 := K0) (l := l) rfl rfl rfl rfl) (zw9 (l := c.X) rfl hX) hf hn.1 (by simpa using hn.2) (z79 rfl hL) (fun y => congrFun hok y) (z7c hr))
end
end Go.Proofs.YtnpfkhdbmlhfhaaGreatDoor.M
