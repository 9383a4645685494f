/- The program's types, and their cells. -/
import Derived.Test.YtblgefddnnlniaaGreatDoorA4
import Derived.Test.YtblgefddnnlniaaGreatDoorShelf
import Derived.KernelRfl
namespace Go.Proofs.YtblgefddnnlniaaGreatDoor.M
open Go Go.Amx
set_option linter.unusedVariables false
set_option maxRecDepth 100000
noncomputable section
structure zR where
 fields : Int
 types : Int
structure zY where
 x : Int
 y : Int
 signed : Bool
 code : Int
structure zV where
 msg : ByteArray
 addr : Int
structure zI where
 Registers : Int
 yB : Bool
 zZ : Bool
structure Storage where
 Bytes : ByteArray
 Tags : List Bool
structure zK where
 Based : Bool
 Pointer : Int
 Offset : Int
structure DataType where
 Kind : Int
 Length : Int
 Scale : Int
structure Number where
 N : Int
 Scale : Int
structure zB where
 Op : Int
 R : Int
 A : Int
 B : Int
 zO : Int
 Place : zK
 From : zK
 zD : DataType
 Second : DataType
 Half : Bool
 zN : Bool
 Number : Number
 Text : ByteArray
 Other : ByteArray
 Mask : Int
 Target : Int
 Pointer : Int
 Source : Int
structure zP where
 From : Int
 To : Int
 Exception : Int
 Handler : Int
structure zF where
 Storage : Storage
 zC : List zB
 zQ : List zP
structure zA where
 Register : Int
 zD : DataType
 Offset : Int
structure zW where
 Facts : List (List zA)
 Index : List Int
structure Optimization where
 Model : zI
 Before : zF
 After : zF
 Proof : zW
structure zX where
 Starts : List Int
structure Value where
 N : Int
 S : ByteArray
structure zH where
 Name : ByteArray
 Kind : Int
 zD : DataType
 Value : Value
 Base : ByteArray
 Offset : Int
 Target : Int
structure zM where
 Op : Int
 Args : List Int
structure zT where
 From : Int
 To : Int
 Exception : Int
 Handler : Int
structure zJ where
 zS : List zH
 zC : List zM
 yA : List zT
structure zG where
 zJ : zJ
 layout : List Int
 code : List zB
structure zU where
 Part : Int
 Index : Int
structure zL where
 R : Bool
 A : Bool
 B : Bool
 Place : Bool
 From : Bool
 Half : Bool
 Number : Bool
 zO : Bool
 Mask : Bool
 Target : Bool
 Text : Bool
 Other : Bool
 Pointer : Bool
 Source : Bool
 zD : Int
 Second : Int
structure Address where
 yC : Int
 Offset : Int
structure Pointer where
 Kind : Int
 Address : Address
 Authority : Int
inductive Ty where
 | int (k : IntKind)
 | bool
 | str
 | nil
 | sl (t : Ty)
 | st (n : Nat)
@[reducible] def zyx : Nat → Type
 | 0 => zR
 | 1 => zY
 | 2 => zV
 | 3 => zI
 | 4 => Storage
 | 5 => zK
 | 6 => DataType
 | 7 => Number
 | 8 => zB
 | 9 => zP
 | 10 => zF
 | 11 => zA
 | 12 => zW
 | 13 => Optimization
 | 14 => zX
 | 15 => Value
 | 16 => zH
 | 17 => zM
 | 18 => zT
 | 19 => zJ
 | 20 => zG
 | 21 => zU
 | 22 => zL
 | 23 => Address
 | 24 => Pointer
 | _ + 25 => Unit
@[reducible] def den : Ty → Type
 | .int _ => Int
 | .bool => Bool
 | .str => ByteArray
 | .nil => Unit
 | .sl t => List (den t)
 | .st n => zyx n
def eqTy : (a b : Ty) → Option (PLift (a = b))
 | .int j, .int k => if h : j = k then some ⟨by rw [h]⟩ else none
 | .bool, .bool => some ⟨rfl⟩
 | .str, .str => some ⟨rfl⟩
 | .nil, .nil => some ⟨rfl⟩
 | .sl a, .sl b => match eqTy a b with
  | some ⟨h⟩ => some ⟨by rw [h]⟩
  | none => none
 | .st i, .st j => if h : i = j then some ⟨by rw [h]⟩ else none
 | _, _ => none
@[reducible] def U : Uni := { Ty := Ty, den := den, eqTy := eqTy }
@[reducible] def T6 : Ty := Ty.int .i64
def w6 (n : Int) : Int := IntKind.wrap .i64 n
@[reducible] def Ty.zR : Ty := .st 0
@[reducible] def Ty.zY : Ty := .st 1
@[reducible] def Ty.zV : Ty := .st 2
@[reducible] def Ty.zI : Ty := .st 3
@[reducible] def Ty.Storage : Ty := .st 4
@[reducible] def Ty.zK : Ty := .st 5
@[reducible] def Ty.DataType : Ty := .st 6
@[reducible] def Ty.Number : Ty := .st 7
@[reducible] def Ty.zB : Ty := .st 8
@[reducible] def Ty.zP : Ty := .st 9
@[reducible] def Ty.zF : Ty := .st 10
@[reducible] def Ty.zA : Ty := .st 11
@[reducible] def Ty.zW : Ty := .st 12
@[reducible] def Ty.Optimization : Ty := .st 13
@[reducible] def Ty.zX : Ty := .st 14
@[reducible] def Ty.Value : Ty := .st 15
@[reducible] def Ty.zH : Ty := .st 16
@[reducible] def Ty.zM : Ty := .st 17
@[reducible] def Ty.zT : Ty := .st 18
@[reducible] def Ty.zJ : Ty := .st 19
@[reducible] def Ty.zG : Ty := .st 20
@[reducible] def Ty.zU : Ty := .st 21
@[reducible] def Ty.zL : Ty := .st 22
@[reducible] def Ty.Address : Ty := .st 23
@[reducible] def Ty.Pointer : Ty := .st 24
def zcf (k : IntKind) : List (AV U) → Option (Int × List (AV U))
 | .sc (.int k' n) :: l => if k = k' then some (n, l) else none
 | _ => none
def zfg : List (AV U) → Option (Bool × List (AV U))
 | .sc (.bool b) :: l => some (b, l)
 | _ => none
def zoo : List (AV U) → Option (ByteArray × List (AV U))
 | .sc (.string s) :: l => some (s, l)
 | _ => none
def z1y : List (AV U) → Option (Unit × List (AV U))
 | .sc (.slice none 0 0) :: l => some ((), l)
 | _ => none
def rSl (t : Ty) : List (AV U) → Option (List (den t) × List (AV U))
 | .lst t' xs :: l => (U.eqTy t' t).map fun e => (zql e xs, l)
 | .sc (.slice none 0 0) :: l => some ([], l)
 | _ => none
def zlx (l : List (AV U)) : Option (zR × List (AV U)) := (zcf .i64 l).bind fun x0 => (zcf .i64 x0.2).bind fun x1 => some (⟨x0.1, x1.1⟩, x1.2)
def ziv (l : List (AV U)) : Option (zY × List (AV U)) := (zcf .i64 l).bind fun x0 => (zcf .i64 x0.2).bind fun x1 => (zfg x1.2).bind fun x2 => (zcf .u8 x2.2).bind fun x3 => some (⟨x0.1, x1.1, x2.1, x3.1⟩, x3.2)
def zgb (l : List (AV U)) : Option (zV × List (AV U)) := (zoo l).bind fun x0 => (zcf .u64 x0.2).bind fun x1 => some (⟨x0.1, x1.1⟩, x1.2)
def zp3 (l : List (AV U)) : Option (zI × List (AV U)) := (zcf .i64 l).bind fun x0 => (zfg x0.2).bind fun x1 => (zfg x1.2).bind fun x2 => some (⟨x0.1, x1.1, x2.1⟩, x2.2)
def zpz (l : List (AV U)) : Option (Storage × List (AV U)) := (zoo l).bind fun x0 => (rSl Ty.bool x0.2).bind fun x1 => some (⟨x0.1, x1.1⟩, x1.2)
def zni (l : List (AV U)) : Option (zK × List (AV U)) := (zfg l).bind fun x0 => (zcf .i64 x0.2).bind fun x1 => (zcf .i64 x1.2).bind fun x2 => some (⟨x0.1, x1.1, x2.1⟩, x2.2)
def zjv (l : List (AV U)) : Option (DataType × List (AV U)) := (zcf .i64 l).bind fun x0 => (zcf .i64 x0.2).bind fun x1 => (zcf .i64 x1.2).bind fun x2 => some (⟨x0.1, x1.1, x2.1⟩, x2.2)
def zrw (l : List (AV U)) : Option (Number × List (AV U)) := (zcf .i64 l).bind fun x0 => (zcf .i64 x0.2).bind fun x1 => some (⟨x0.1, x1.1⟩, x1.2)
def zl1 (l : List (AV U)) : Option (zB × List (AV U)) := (zcf .i64 l).bind fun x0 => (zcf .i64 x0.2).bind fun x1 => (zcf .i64 x1.2).bind fun x2 => (zcf .i64 x2.2).bind fun x3 => (zcf .i64 x3.2).bind fun x4 => (zni x4.2).bind fun x5 => (zni x5.2).bind fun x6 => (zjv x6.2).bind fun x7 => (zjv x7.2).bind fun x8 => (zfg x8.2).bind fun x9 => (zfg x9.2).bind fun x10 => (zrw x10.2).bind fun x11 => (zoo x11.2).bind fun x12 => (zoo x12.2).bind fun x13 => (zcf .i64 x13.2).bind fun x14 => (zcf .i64 x14.2).bind fun x15 => (zcf .i64 x15.2).bind fun x16 => (zcf .i64 x16.2).bind fun x17 => some (⟨x0.1, x1.1, x2.1, x3.1, x4.1, x5.1, x6.1, x7.1, x8.1, x9.1, x10.1, x11.1, x12.1, x13.1, x14.1, x15.1, x16.1, x17.1⟩, x17.2)
def zun (l : List (AV U)) : Option (zP × List (AV U)) := (zcf .i64 l).bind fun x0 => (zcf .i64 x0.2).bind fun x1 => (zcf .i64 x1.2).bind fun x2 => (zcf .i64 x2.2).bind fun x3 => some (⟨x0.1, x1.1, x2.1, x3.1⟩, x3.2)
def zo6 (l : List (AV U)) : Option (zF × List (AV U)) := (zpz l).bind fun x0 => (rSl Ty.zB x0.2).bind fun x1 => (rSl Ty.zP x1.2).bind fun x2 => some (⟨x0.1, x1.1, x2.1⟩, x2.2)
def zuo (l : List (AV U)) : Option (zA × List (AV U)) := (zcf .i64 l).bind fun x0 => (zjv x0.2).bind fun x1 => (zcf .i64 x1.2).bind fun x2 => some (⟨x0.1, x1.1, x2.1⟩, x2.2)
def zp2 (l : List (AV U)) : Option (zW × List (AV U)) := (rSl (Ty.sl Ty.zA) l).bind fun x0 => (rSl (Ty.int .i64) x0.2).bind fun x1 => some (⟨x0.1, x1.1⟩, x1.2)
def zmt (l : List (AV U)) : Option (Optimization × List (AV U)) := (zp3 l).bind fun x0 => (zo6 x0.2).bind fun x1 => (zo6 x1.2).bind fun x2 => (zp2 x2.2).bind fun x3 => some (⟨x0.1, x1.1, x2.1, x3.1⟩, x3.2)
def zwj (l : List (AV U)) : Option (zX × List (AV U)) := (rSl (Ty.int .i64) l).bind fun x0 => some (⟨x0.1⟩, x0.2)
def zty (l : List (AV U)) : Option (Value × List (AV U)) := (zcf .i64 l).bind fun x0 => (zoo x0.2).bind fun x1 => some (⟨x0.1, x1.1⟩, x1.2)
def zp0 (l : List (AV U)) : Option (zH × List (AV U)) := (zoo l).bind fun x0 => (zcf .i64 x0.2).bind fun x1 => (zjv x1.2).bind fun x2 => (zty x2.2).bind fun x3 => (zoo x3.2).bind fun x4 => (zcf .i64 x4.2).bind fun x5 => (zcf .i64 x5.2).bind fun x6 => some (⟨x0.1, x1.1, x2.1, x3.1, x4.1, x5.1, x6.1⟩, x6.2)
def zl0 (l : List (AV U)) : Option (zM × List (AV U)) := (zcf .i64 l).bind fun x0 => (rSl (Ty.int .i64) x0.2).bind fun x1 => some (⟨x0.1, x1.1⟩, x1.2)
def zp1 (l : List (AV U)) : Option (zT × List (AV U)) := (zcf .i64 l).bind fun x0 => (zcf .i64 x0.2).bind fun x1 => (zcf .i64 x1.2).bind fun x2 => (zcf .i64 x2.2).bind fun x3 => some (⟨x0.1, x1.1, x2.1, x3.1⟩, x3.2)
def zm1 (l : List (AV U)) : Option (zJ × List (AV U)) := (rSl Ty.zH l).bind fun x0 => (rSl Ty.zM x0.2).bind fun x1 => (rSl Ty.zT x1.2).bind fun x2 => some (⟨x0.1, x1.1, x2.1⟩, x2.2)
def zih (l : List (AV U)) : Option (zG × List (AV U)) := (zm1 l).bind fun x0 => (rSl (Ty.int .i64) x0.2).bind fun x1 => (rSl Ty.zB x1.2).bind fun x2 => some (⟨x0.1, x1.1, x2.1⟩, x2.2)
def zsy (l : List (AV U)) : Option (zU × List (AV U)) := (zcf .i64 l).bind fun x0 => (zcf .i64 x0.2).bind fun x1 => some (⟨x0.1, x1.1⟩, x1.2)
def zms (l : List (AV U)) : Option (zL × List (AV U)) := (zfg l).bind fun x0 => (zfg x0.2).bind fun x1 => (zfg x1.2).bind fun x2 => (zfg x2.2).bind fun x3 => (zfg x3.2).bind fun x4 => (zfg x4.2).bind fun x5 => (zfg x5.2).bind fun x6 => (zfg x6.2).bind fun x7 => (zfg x7.2).bind fun x8 => (zfg x8.2).bind fun x9 => (zfg x9.2).bind fun x10 => (zfg x10.2).bind fun x11 => (zfg x11.2).bind fun x12 => (zfg x12.2).bind fun x13 => (zcf .i64 x13.2).bind fun x14 => (zcf .i64 x14.2).bind fun x15 => some (⟨x0.1, x1.1, x2.1, x3.1, x4.1, x5.1, x6.1, x7.1, x8.1, x9.1, x10.1, x11.1, x12.1, x13.1, x14.1, x15.1⟩, x15.2)
def zp4 (l : List (AV U)) : Option (Address × List (AV U)) := (zcf .i64 l).bind fun x0 => (zcf .i64 x0.2).bind fun x1 => some (⟨x0.1, x1.1⟩, x1.2)
def zsx (l : List (AV U)) : Option (Pointer × List (AV U)) := (zcf .i64 l).bind fun x0 => (zp4 x0.2).bind fun x1 => (zcf .i64 x1.2).bind fun x2 => some (⟨x0.1, x1.1, x2.1⟩, x2.2)
def zpc (x : zR) : List (AV U) := [.sc (.int .i64 x.fields), .sc (.int .i64 x.types)]
def zlo (x : zY) : List (AV U) := [.sc (.int .i64 x.x), .sc (.int .i64 x.y), .sc (.bool x.signed), .sc (.int .u8 x.code)]
def ziq (x : zV) : List (AV U) := [.sc (.string x.msg), .sc (.int .u64 x.addr)]
def zw7 (x : zI) : List (AV U) := [.sc (.int .i64 x.Registers), .sc (.bool x.yB), .sc (.bool x.zZ)]
def zw2 (x : Storage) : List (AV U) := [.sc (.string x.Bytes), .lst Ty.bool x.Tags]
def zw6 (x : zK) : List (AV U) := [.sc (.bool x.Based), .sc (.int .i64 x.Pointer), .sc (.int .i64 x.Offset)]
def zvd (x : DataType) : List (AV U) := [.sc (.int .i64 x.Kind), .sc (.int .i64 x.Length), .sc (.int .i64 x.Scale)]
def zyf (x : Number) : List (AV U) := [.sc (.int .i64 x.N), .sc (.int .i64 x.Scale)]
def zg1 (x : zB) : List (AV U) := [.sc (.int .i64 x.Op), .sc (.int .i64 x.R), .sc (.int .i64 x.A), .sc (.int .i64 x.B), .sc (.int .i64 x.zO), .sc (.bool x.Place.Based), .sc (.int .i64 x.Place.Pointer), .sc (.int .i64 x.Place.Offset), .sc (.bool x.From.Based), .sc (.int .i64 x.From.Pointer), .sc (.int .i64 x.From.Offset), .sc (.int .i64 x.zD.Kind), .sc (.int .i64 x.zD.Length), .sc (.int .i64 x.zD.Scale), .sc (.int .i64 x.Second.Kind), .sc (.int .i64 x.Second.Length), .sc (.int .i64 x.Second.Scale), .sc (.bool x.Half), .sc (.bool x.zN), .sc (.int .i64 x.Number.N), .sc (.int .i64 x.Number.Scale), .sc (.string x.Text), .sc (.string x.Other), .sc (.int .i64 x.Mask), .sc (.int .i64 x.Target), .sc (.int .i64 x.Pointer), .sc (.int .i64 x.Source)]
def zyg (x : zP) : List (AV U) := [.sc (.int .i64 x.From), .sc (.int .i64 x.To), .sc (.int .i64 x.Exception), .sc (.int .i64 x.Handler)]
def zjc (x : zF) : List (AV U) := [.sc (.string x.Storage.Bytes), .lst Ty.bool x.Storage.Tags, .lst Ty.zB x.zC, .lst Ty.zP x.zQ]
def zpf (x : zA) : List (AV U) := [.sc (.int .i64 x.Register), .sc (.int .i64 x.zD.Kind), .sc (.int .i64 x.zD.Length), .sc (.int .i64 x.zD.Scale), .sc (.int .i64 x.Offset)]
def zw5 (x : zW) : List (AV U) := [.lst (Ty.sl Ty.zA) x.Facts, .lst (Ty.int .i64) x.Index]
def zqs (x : Optimization) : List (AV U) := [.sc (.int .i64 x.Model.Registers), .sc (.bool x.Model.yB), .sc (.bool x.Model.zZ), .sc (.string x.Before.Storage.Bytes), .lst Ty.bool x.Before.Storage.Tags, .lst Ty.zB x.Before.zC, .lst Ty.zP x.Before.zQ, .sc (.string x.After.Storage.Bytes), .lst Ty.bool x.After.Storage.Tags, .lst Ty.zB x.After.zC, .lst Ty.zP x.After.zQ, .lst (Ty.sl Ty.zA) x.Proof.Facts, .lst (Ty.int .i64) x.Proof.Index]
def z02 (x : zX) : List (AV U) := [.lst (Ty.int .i64) x.Starts]
def z01 (x : Value) : List (AV U) := [.sc (.int .i64 x.N), .sc (.string x.S)]
def zub (x : zH) : List (AV U) := [.sc (.string x.Name), .sc (.int .i64 x.Kind), .sc (.int .i64 x.zD.Kind), .sc (.int .i64 x.zD.Length), .sc (.int .i64 x.zD.Scale), .sc (.int .i64 x.Value.N), .sc (.string x.Value.S), .sc (.string x.Base), .sc (.int .i64 x.Offset), .sc (.int .i64 x.Target)]
def zpe (x : zM) : List (AV U) := [.sc (.int .i64 x.Op), .lst (Ty.int .i64) x.Args]
def zuc (x : zT) : List (AV U) := [.sc (.int .i64 x.From), .sc (.int .i64 x.To), .sc (.int .i64 x.Exception), .sc (.int .i64 x.Handler)]
def zua (x : zJ) : List (AV U) := [.lst Ty.zH x.zS, .lst Ty.zM x.zC, .lst Ty.zT x.yA]
def zk8 (x : zG) : List (AV U) := [.lst Ty.zH x.zJ.zS, .lst Ty.zM x.zJ.zC, .lst Ty.zT x.zJ.yA, .lst (Ty.int .i64) x.layout, .lst Ty.zB x.code]
def zw4 (x : zU) : List (AV U) := [.sc (.int .i64 x.Part), .sc (.int .i64 x.Index)]
def zqr (x : zL) : List (AV U) := [.sc (.bool x.R), .sc (.bool x.A), .sc (.bool x.B), .sc (.bool x.Place), .sc (.bool x.From), .sc (.bool x.Half), .sc (.bool x.Number), .sc (.bool x.zO), .sc (.bool x.Mask), .sc (.bool x.Target), .sc (.bool x.Text), .sc (.bool x.Other), .sc (.bool x.Pointer), .sc (.bool x.Source), .sc (.int .i64 x.zD), .sc (.int .i64 x.Second)]
def zw8 (x : Address) : List (AV U) := [.sc (.int .i64 x.yC), .sc (.int .i64 x.Offset)]
def zw3 (x : Pointer) : List (AV U) := [.sc (.int .i64 x.Kind), .sc (.int .i64 x.Address.yC), .sc (.int .i64 x.Address.Offset), .sc (.int .i64 x.Authority)]
def z6e : (n : Nat) → zyx n → List (AV U)
 | 0, x => zpc x
 | 1, x => zlo x
 | 2, x => ziq x
 | 3, x => zw7 x
 | 4, x => zw2 x
 | 5, x => zw6 x
 | 6, x => zvd x
 | 7, x => zyf x
 | 8, x => zg1 x
 | 9, x => zyg x
 | 10, x => zjc x
 | 11, x => zpf x
 | 12, x => zw5 x
 | 13, x => zqs x
 | 14, x => z02 x
 | 15, x => z01 x
 | 16, x => zub x
 | 17, x => zpe x
 | 18, x => zuc x
 | 19, x => zua x
 | 20, x => zk8 x
 | 21, x => zw4 x
 | 22, x => zqr x
 | 23, x => zw8 x
 | 24, x => zw3 x
 | _ + 25, _ => [.sc (.bool true)]
def z6i : (n : Nat) → List (AV U) → Option (zyx n × List (AV U))
 | 0, l => zlx l
 | 1, l => ziv l
 | 2, l => zgb l
 | 3, l => zp3 l
 | 4, l => zpz l
 | 5, l => zni l
 | 6, l => zjv l
 | 7, l => zrw l
 | 8, l => zl1 l
 | 9, l => zun l
 | 10, l => zo6 l
 | 11, l => zuo l
 | 12, l => zp2 l
 | 13, l => zmt l
 | 14, l => zwj l
 | 15, l => zty l
 | 16, l => zp0 l
 | 17, l => zl0 l
 | 18, l => zp1 l
 | 19, l => zm1 l
 | 20, l => zih l
 | 21, l => zsy l
 | 22, l => zms l
 | 23, l => zp4 l
 | 24, l => zsx l
 | _ + 25, _ => none
def enc : (t : Ty) → den t → List (AV U)
 | .int k, n => [.sc (.int k n)]
 | .bool, b => [.sc (.bool b)]
 | .str, s => [.sc (.string s)]
 | .nil, _ => [.sc (.slice none 0 0)]
 | .sl t, xs => [.lst t xs]
 | .st n, x => z6e n x
def rd : (t : Ty) → List (AV U) → Option (den t × List (AV U))
 | .int k, l => zcf k l
 | .bool, l => zfg l
 | .str, l => zoo l
 | .nil, l => z1y l
 | .sl t, l => rSl t l
 | .st n, l => z6i n l
def reify (t : Ty) (l : List (AV U)) : Option (den t) := (rd t l).bind fun r => match r.2 with
 | [] => some r.1
 | _ => none
def z6h : Nat → Nat
 | 0 => 2
 | 1 => 4
 | 2 => 2
 | 3 => 3
 | 4 => 2
 | 5 => 3
 | 6 => 3
 | 7 => 2
 | 8 => 27
 | 9 => 4
 | 10 => 4
 | 11 => 5
 | 12 => 2
 | 13 => 13
 | 14 => 1
 | 15 => 2
 | 16 => 10
 | 17 => 2
 | 18 => 4
 | 19 => 3
 | 20 => 5
 | 21 => 2
 | 22 => 16
 | 23 => 2
 | 24 => 4
 | _ + 25 => 1
def z49 : Nat → Bool
 | 0 => true
 | 1 => true
 | 2 => true
 | 3 => true
 | 4 => false
 | 5 => true
 | 6 => true
 | 7 => true
 | 8 => true
 | 9 => true
 | 10 => false
 | 11 => true
 | 12 => false
 | 13 => false
 | 14 => false
 | 15 => true
 | 16 => true
 | 17 => false
 | 18 => true
 | 19 => false
 | 20 => false
 | 21 => true
 | 22 => true
 | 23 => true
 | 24 => true
 | _ + 25 => true
def szT : Ty → Nat
 | .st n => z6h n
 | _ => 1
def z5e : Ty → Bool
 | .st _ => true
 | _ => false
def z2x : Ty → Bool
 | .sl _ => false
 | .st n => z49 n
 | _ => true
def z2t : List (Nat × Ty) := [(2, (Ty.int .i64)), (3, (Ty.int .i64)), (4, Ty.bool), (5, (Ty.int .u8)), (6, (Ty.int .u8)), (8, Ty.zY), (9, Ty.str), (10, Ty.str), (11, Ty.str), (12, (Ty.int .u64)), (14, Ty.zV), (21, (Ty.int .i32)), (23, Ty.zI), (24, (Ty.sl Ty.bool)), (26, Ty.Storage), (27, (Ty.sl Ty.zB)), (28, (Ty.sl Ty.zP)), (30, Ty.zF), (33, (Ty.sl (Ty.sl Ty.zA))), (34, (Ty.int .i64)), (43, (Ty.sl (Ty.int .i64))), (45, Ty.zW), (51, Ty.Optimization), (60, (Ty.sl (Ty.sl (Ty.int .i64)))), (67, Ty.zX), (70, (Ty.sl Ty.zH)), (71, (Ty.sl Ty.zM)), (72, (Ty.sl Ty.zT)), (74, Ty.zJ), (77, Ty.zK), (79, Ty.DataType), (81, Ty.Number), (83, Ty.zB), (88, (Ty.sl Ty.zA)), (97, Ty.zA), (110, Ty.zP), (125, (Ty.sl (Ty.sl Ty.bool))), (135, Ty.zG), (137, Ty.zM), (142, Ty.Value), (144, Ty.zH), (157, (Ty.sl (Ty.int .i64))), (161, (Ty.sl (Ty.int .u8))), (163, Ty.zU), (175, Ty.zT), (183, Ty.zL), (213, Ty.Address), (215, Ty.Pointer), (221, Ty.zR), (238, (Ty.int .u64)), (269, (Ty.int .u32)), (272, (Ty.int .u64)), (278, (Ty.int .i64)), (290, (Ty.int .u64)), (302, (Ty.int .u8)), (303, (Ty.int .u8)), (305, (Ty.int .i32)), (306, (Ty.int .i32))]
def En : Enc U := { sz := szT, agg := z5e, flat := z2x, enc := enc, reify := reify, ofGo := pick z2t, sl := Ty.sl, toSl := fun _ xs => xs, ofSl := fun _ xs => xs, u8 := .int .u8, ofInts := fun l => l, toInts := fun l => l }
def zzj : List (List Int) := [[0, 4], [2, 3], [2, 3, 3], [2, 3, 3], [2, 3, 3], [2, 3, 3], [2, 3, 3], [1, 4, 6], [1, 4, 6], [6], [5, 0], [5, 5], [5, 3], [6], [], [3], [2], [1], []]
def zzk : List zR := [⟨41, 1⟩, ⟨169, 1⟩, ⟨257, 0⟩, ⟨3, 0⟩, ⟨32807, 1⟩, ⟨6, 0⟩, ⟨6144, 0⟩, ⟨6150, 0⟩, ⟨4096, 0⟩, ⟨120, 2⟩, ⟨552, 2⟩, ⟨120, 2⟩, ⟨552, 2⟩, ⟨1536, 0⟩, ⟨8232, 3⟩, ⟨24576, 0⟩, ⟨8193, 0⟩, ⟨8192, 0⟩, ⟨4096, 0⟩, ⟨0, 0⟩, ⟨1, 0⟩, ⟨1, 0⟩, ⟨1, 0⟩, ⟨40, 2⟩, ⟨512, 0⟩, ⟨0, 0⟩, ⟨0, 0⟩]
def globs : List (Nat × AV U) := [(0, .rarr (Ty.sl (Ty.int .i64)) zzj), (1, .rarr Ty.zR zzk)]
def zot (O : List (Nat × Ct U)) (X : List (Nat × Nat)) (J : List (Nat × Amx.Spec U × List Ty)) (pre : List (Nat × List Nat)) (lits ro pk bj : List Nat) : Ctx U :=
 { P := Proofs.Tryz.prog, En := En, G := pick globs, O := pick O, X := pick X, joins := pick J, pre := fun r => (pick pre r).getD [], lits := lits, ro := ro, pk := pk, bj := bj }
theorem za2 (k : IntKind) : Sp (U := U) (zcf k) (fun n : Int => [.sc (.int k n)]) := fun l x r h => by
 unfold zcf at h
 split at h
 · split at h
   · rename_i e; cases h; subst e; exact ⟨[_], rfl, F2.refl_ref _⟩
   · cases h
 · cases h
theorem zdt : Sp (U := U) zfg (fun b : Bool => [.sc (.bool b)]) := fun l x r h => by
 unfold zfg at h
 split at h
 · cases h; exact ⟨[_], rfl, F2.refl_ref _⟩
 · cases h
theorem zmj : Sp (U := U) zoo (fun s : ByteArray => [.sc (.string s)]) := fun l x r h => by
 unfold zoo at h
 split at h
 · cases h; exact ⟨[_], rfl, F2.refl_ref _⟩
 · cases h
theorem z4h : Sp (U := U) z1y (fun _ : Unit => [.sc (.slice none 0 0)]) := fun l x r h => by
 unfold z1y at h
 split at h
 · cases h; exact ⟨[_], rfl, F2.refl_ref _⟩
 · cases h
theorem zj4 (t : Ty) : Sp (U := U) (rSl t) (fun xs : List (den t) => [.lst t xs]) := fun l x r h => by
 unfold rSl at h
 split at h
 · rw [Option.map_eq_some_iff] at h; obtain ⟨⟨e⟩, _, h2⟩ := h; cases e; cases h2; exact ⟨[_], rfl, F2.refl_ref _⟩
 · cases h; exact ⟨[_], rfl, .cons (.inr ⟨rfl, _, rfl⟩) .nil⟩
 · cases h
theorem zsn : Sp (U := U) zlx zpc := fun l x r h => by
 unfold zlx at h
 obtain ⟨x0, r0, p0, e0, f0, h⟩ := (za2 .i64).step h
 obtain ⟨x1, r1, p1, (e1 : r0 = p1 ++ r1), f1, h⟩ := (za2 .i64).step h
 cases h
 exact ⟨(p0 ++ p1), by rw [e0, e1]; simp only [List.append_assoc], (f0.append f1)⟩
theorem zol : Sp (U := U) ziv zlo := fun l x r h => by
 unfold ziv at h
 obtain ⟨x0, r0, p0, e0, f0, h⟩ := (za2 .i64).step h
 obtain ⟨x1, r1, p1, (e1 : r0 = p1 ++ r1), f1, h⟩ := (za2 .i64).step h
 obtain ⟨x2, r2, p2, (e2 : r1 = p2 ++ r2), f2, h⟩ := zdt.step h
 obtain ⟨x3, r3, p3, (e3 : r2 = p3 ++ r3), f3, h⟩ := (za2 .u8).step h
 cases h
 exact ⟨(p0 ++ (p1 ++ (p2 ++ p3))), by rw [e0, e1, e2, e3]; simp only [List.append_assoc], (f0.append (f1.append (f2.append f3)))⟩
theorem zls : Sp (U := U) zgb ziq := fun l x r h => by
 unfold zgb at h
 obtain ⟨x0, r0, p0, e0, f0, h⟩ := zmj.step h
 obtain ⟨x1, r1, p1, (e1 : r0 = p1 ++ r1), f1, h⟩ := (za2 .u64).step h
 cases h
 exact ⟨(p0 ++ p1), by rw [e0, e1]; simp only [List.append_assoc], (f0.append f1)⟩
theorem ztl : Sp (U := U) zp3 zw7 := fun l x r h => by
 unfold zp3 at h
 obtain ⟨x0, r0, p0, e0, f0, h⟩ := (za2 .i64).step h
 obtain ⟨x1, r1, p1, (e1 : r0 = p1 ++ r1), f1, h⟩ := zdt.step h
 obtain ⟨x2, r2, p2, (e2 : r1 = p2 ++ r2), f2, h⟩ := zdt.step h
 cases h
 exact ⟨(p0 ++ (p1 ++ p2)), by rw [e0, e1, e2]; simp only [List.append_assoc], (f0.append (f1.append f2))⟩
theorem zti : Sp (U := U) zpz zw2 := fun l x r h => by
 unfold zpz at h
 obtain ⟨x0, r0, p0, e0, f0, h⟩ := zmj.step h
 obtain ⟨x1, r1, p1, (e1 : r0 = p1 ++ r1), f1, h⟩ := (zj4 Ty.bool).step h
 cases h
 exact ⟨(p0 ++ p1), by rw [e0, e1]; simp only [List.append_assoc], (f0.append f1)⟩
theorem zpr : Sp (U := U) zni zw6 := fun l x r h => by
 unfold zni at h
 obtain ⟨x0, r0, p0, e0, f0, h⟩ := zdt.step h
 obtain ⟨x1, r1, p1, (e1 : r0 = p1 ++ r1), f1, h⟩ := (za2 .i64).step h
 obtain ⟨x2, r2, p2, (e2 : r1 = p2 ++ r2), f2, h⟩ := (za2 .i64).step h
 cases h
 exact ⟨(p0 ++ (p1 ++ p2)), by rw [e0, e1, e2]; simp only [List.append_assoc], (f0.append (f1.append f2))⟩
theorem zkf : Sp (U := U) zjv zvd := fun l x r h => by
 unfold zjv at h
 obtain ⟨x0, r0, p0, e0, f0, h⟩ := (za2 .i64).step h
 obtain ⟨x1, r1, p1, (e1 : r0 = p1 ++ r1), f1, h⟩ := (za2 .i64).step h
 obtain ⟨x2, r2, p2, (e2 : r1 = p2 ++ r2), f2, h⟩ := (za2 .i64).step h
 cases h
 exact ⟨(p0 ++ (p1 ++ p2)), by rw [e0, e1, e2]; simp only [List.append_assoc], (f0.append (f1.append f2))⟩
theorem zu5 : Sp (U := U) zrw zyf := fun l x r h => by
 unfold zrw at h
 obtain ⟨x0, r0, p0, e0, f0, h⟩ := (za2 .i64).step h
 obtain ⟨x1, r1, p1, (e1 : r0 = p1 ++ r1), f1, h⟩ := (za2 .i64).step h
 cases h
 exact ⟨(p0 ++ p1), by rw [e0, e1]; simp only [List.append_assoc], (f0.append f1)⟩
theorem zsp : Sp (U := U) zl1 zg1 := fun l x r h => by
 unfold zl1 at h
 obtain ⟨x0, r0, p0, e0, f0, h⟩ := (za2 .i64).step h
 obtain ⟨x1, r1, p1, (e1 : r0 = p1 ++ r1), f1, h⟩ := (za2 .i64).step h
 obtain ⟨x2, r2, p2, (e2 : r1 = p2 ++ r2), f2, h⟩ := (za2 .i64).step h
 obtain ⟨x3, r3, p3, (e3 : r2 = p3 ++ r3), f3, h⟩ := (za2 .i64).step h
 obtain ⟨x4, r4, p4, (e4 : r3 = p4 ++ r4), f4, h⟩ := (za2 .i64).step h
 obtain ⟨x5, r5, p5, (e5 : r4 = p5 ++ r5), f5, h⟩ := zpr.step h
 obtain ⟨x6, r6, p6, (e6 : r5 = p6 ++ r6), f6, h⟩ := zpr.step h
 obtain ⟨x7, r7, p7, (e7 : r6 = p7 ++ r7), f7, h⟩ := zkf.step h
 obtain ⟨x8, r8, p8, (e8 : r7 = p8 ++ r8), f8, h⟩ := zkf.step h
 obtain ⟨x9, r9, p9, (e9 : r8 = p9 ++ r9), f9, h⟩ := zdt.step h
 obtain ⟨x10, r10, p10, (e10 : r9 = p10 ++ r10), f10, h⟩ := zdt.step h
 obtain ⟨x11, r11, p11, (e11 : r10 = p11 ++ r11), f11, h⟩ := zu5.step h
 obtain ⟨x12, r12, p12, (e12 : r11 = p12 ++ r12), f12, h⟩ := zmj.step h
 obtain ⟨x13, r13, p13, (e13 : r12 = p13 ++ r13), f13, h⟩ := zmj.step h
 obtain ⟨x14, r14, p14, (e14 : r13 = p14 ++ r14), f14, h⟩ := (za2 .i64).step h
 obtain ⟨x15, r15, p15, (e15 : r14 = p15 ++ r15), f15, h⟩ := (za2 .i64).step h
 obtain ⟨x16, r16, p16, (e16 : r15 = p16 ++ r16), f16, h⟩ := (za2 .i64).step h
 obtain ⟨x17, r17, p17, (e17 : r16 = p17 ++ r17), f17, h⟩ := (za2 .i64).step h
 cases h
 exact ⟨(p0 ++ (p1 ++ (p2 ++ (p3 ++ (p4 ++ (p5 ++ (p6 ++ (p7 ++ (p8 ++ (p9 ++ (p10 ++ (p11 ++ (p12 ++ (p13 ++ (p14 ++ (p15 ++ (p16 ++ p17))))))))))))))))), by rw [e0, e1, e2, e3, e4, e5, e6, e7, e8, e9, e10, e11, e12, e13, e14, e15, e16, e17]; simp only [List.append_assoc], (f0.append (f1.append (f2.append (f3.append (f4.append (f5.append (f6.append (f7.append (f8.append (f9.append (f10.append (f11.append (f12.append (f13.append (f14.append (f15.append (f16.append f17)))))))))))))))))⟩
theorem zz6 : Sp (U := U) zun zyg := fun l x r h => by
 unfold zun at h
 obtain ⟨x0, r0, p0, e0, f0, h⟩ := (za2 .i64).step h
 obtain ⟨x1, r1, p1, (e1 : r0 = p1 ++ r1), f1, h⟩ := (za2 .i64).step h
 obtain ⟨x2, r2, p2, (e2 : r1 = p2 ++ r2), f2, h⟩ := (za2 .i64).step h
 obtain ⟨x3, r3, p3, (e3 : r2 = p3 ++ r3), f3, h⟩ := (za2 .i64).step h
 cases h
 exact ⟨(p0 ++ (p1 ++ (p2 ++ p3))), by rw [e0, e1, e2, e3]; simp only [List.append_assoc], (f0.append (f1.append (f2.append f3)))⟩
theorem zq1 : Sp (U := U) zo6 zjc := fun l x r h => by
 unfold zo6 at h
 obtain ⟨x0, r0, p0, e0, f0, h⟩ := zti.step h
 obtain ⟨x1, r1, p1, (e1 : r0 = p1 ++ r1), f1, h⟩ := (zj4 Ty.zB).step h
 obtain ⟨x2, r2, p2, (e2 : r1 = p2 ++ r2), f2, h⟩ := (zj4 Ty.zP).step h
 cases h
 exact ⟨(p0 ++ (p1 ++ p2)), by rw [e0, e1, e2]; simp only [List.append_assoc], (f0.append (f1.append f2))⟩
theorem zz7 : Sp (U := U) zuo zpf := fun l x r h => by
 unfold zuo at h
 obtain ⟨x0, r0, p0, e0, f0, h⟩ := (za2 .i64).step h
 obtain ⟨x1, r1, p1, (e1 : r0 = p1 ++ r1), f1, h⟩ := zkf.step h
 obtain ⟨x2, r2, p2, (e2 : r1 = p2 ++ r2), f2, h⟩ := (za2 .i64).step h
 cases h
 exact ⟨(p0 ++ (p1 ++ p2)), by rw [e0, e1, e2]; simp only [List.append_assoc], (f0.append (f1.append f2))⟩
theorem ztk : Sp (U := U) zp2 zw5 := fun l x r h => by
 unfold zp2 at h
 obtain ⟨x0, r0, p0, e0, f0, h⟩ := (zj4 (Ty.sl Ty.zA)).step h
 obtain ⟨x1, r1, p1, (e1 : r0 = p1 ++ r1), f1, h⟩ := (zj4 (Ty.int .i64)).step h
 cases h
 exact ⟨(p0 ++ p1), by rw [e0, e1]; simp only [List.append_assoc], (f0.append f1)⟩
theorem ztj : Sp (U := U) zmt zqs := fun l x r h => by
 unfold zmt at h
 obtain ⟨x0, r0, p0, e0, f0, h⟩ := ztl.step h
 obtain ⟨x1, r1, p1, (e1 : r0 = p1 ++ r1), f1, h⟩ := zq1.step h
 obtain ⟨x2, r2, p2, (e2 : r1 = p2 ++ r2), f2, h⟩ := zq1.step h
 obtain ⟨x3, r3, p3, (e3 : r2 = p3 ++ r3), f3, h⟩ := ztk.step h
 cases h
 exact ⟨(p0 ++ (p1 ++ (p2 ++ p3))), by rw [e0, e1, e2, e3]; simp only [List.append_assoc], (f0.append (f1.append (f2.append f3)))⟩
theorem z1n : Sp (U := U) zwj z02 := fun l x r h => by
 unfold zwj at h
 obtain ⟨x0, r0, p0, e0, f0, h⟩ := (zj4 (Ty.int .i64)).step h
 cases h
 exact ⟨p0, by rw [e0], f0⟩
theorem zvz : Sp (U := U) zty z01 := fun l x r h => by
 unfold zty at h
 obtain ⟨x0, r0, p0, e0, f0, h⟩ := (za2 .i64).step h
 obtain ⟨x1, r1, p1, (e1 : r0 = p1 ++ r1), f1, h⟩ := zmj.step h
 cases h
 exact ⟨(p0 ++ p1), by rw [e0, e1]; simp only [List.append_assoc], (f0.append f1)⟩
theorem zv0 : Sp (U := U) zp0 zub := fun l x r h => by
 unfold zp0 at h
 obtain ⟨x0, r0, p0, e0, f0, h⟩ := zmj.step h
 obtain ⟨x1, r1, p1, (e1 : r0 = p1 ++ r1), f1, h⟩ := (za2 .i64).step h
 obtain ⟨x2, r2, p2, (e2 : r1 = p2 ++ r2), f2, h⟩ := zkf.step h
 obtain ⟨x3, r3, p3, (e3 : r2 = p3 ++ r3), f3, h⟩ := zvz.step h
 obtain ⟨x4, r4, p4, (e4 : r3 = p4 ++ r4), f4, h⟩ := zmj.step h
 obtain ⟨x5, r5, p5, (e5 : r4 = p5 ++ r5), f5, h⟩ := (za2 .i64).step h
 obtain ⟨x6, r6, p6, (e6 : r5 = p6 ++ r6), f6, h⟩ := (za2 .i64).step h
 cases h
 exact ⟨(p0 ++ (p1 ++ (p2 ++ (p3 ++ (p4 ++ (p5 ++ p6)))))), by rw [e0, e1, e2, e3, e4, e5, e6]; simp only [List.append_assoc], (f0.append (f1.append (f2.append (f3.append (f4.append (f5.append f6))))))⟩
theorem zso : Sp (U := U) zl0 zpe := fun l x r h => by
 unfold zl0 at h
 obtain ⟨x0, r0, p0, e0, f0, h⟩ := (za2 .i64).step h
 obtain ⟨x1, r1, p1, (e1 : r0 = p1 ++ r1), f1, h⟩ := (zj4 (Ty.int .i64)).step h
 cases h
 exact ⟨(p0 ++ p1), by rw [e0, e1]; simp only [List.append_assoc], (f0.append f1)⟩
theorem zv1 : Sp (U := U) zp1 zuc := fun l x r h => by
 unfold zp1 at h
 obtain ⟨x0, r0, p0, e0, f0, h⟩ := (za2 .i64).step h
 obtain ⟨x1, r1, p1, (e1 : r0 = p1 ++ r1), f1, h⟩ := (za2 .i64).step h
 obtain ⟨x2, r2, p2, (e2 : r1 = p2 ++ r2), f2, h⟩ := (za2 .i64).step h
 obtain ⟨x3, r3, p3, (e3 : r2 = p3 ++ r3), f3, h⟩ := (za2 .i64).step h
 cases h
 exact ⟨(p0 ++ (p1 ++ (p2 ++ p3))), by rw [e0, e1, e2, e3]; simp only [List.append_assoc], (f0.append (f1.append (f2.append f3)))⟩
theorem zq0 : Sp (U := U) zm1 zua := fun l x r h => by
 unfold zm1 at h
 obtain ⟨x0, r0, p0, e0, f0, h⟩ := (zj4 Ty.zH).step h
 obtain ⟨x1, r1, p1, (e1 : r0 = p1 ++ r1), f1, h⟩ := (zj4 Ty.zM).step h
 obtain ⟨x2, r2, p2, (e2 : r1 = p2 ++ r2), f2, h⟩ := (zj4 Ty.zT).step h
 cases h
 exact ⟨(p0 ++ (p1 ++ p2)), by rw [e0, e1, e2]; simp only [List.append_assoc], (f0.append (f1.append f2))⟩
theorem znu : Sp (U := U) zih zk8 := fun l x r h => by
 unfold zih at h
 obtain ⟨x0, r0, p0, e0, f0, h⟩ := zq0.step h
 obtain ⟨x1, r1, p1, (e1 : r0 = p1 ++ r1), f1, h⟩ := (zj4 (Ty.int .i64)).step h
 obtain ⟨x2, r2, p2, (e2 : r1 = p2 ++ r2), f2, h⟩ := (zj4 Ty.zB).step h
 cases h
 exact ⟨(p0 ++ (p1 ++ p2)), by rw [e0, e1, e2]; simp only [List.append_assoc], (f0.append (f1.append f2))⟩
theorem zyz : Sp (U := U) zsy zw4 := fun l x r h => by
 unfold zsy at h
 obtain ⟨x0, r0, p0, e0, f0, h⟩ := (za2 .i64).step h
 obtain ⟨x1, r1, p1, (e1 : r0 = p1 ++ r1), f1, h⟩ := (za2 .i64).step h
 cases h
 exact ⟨(p0 ++ p1), by rw [e0, e1]; simp only [List.append_assoc], (f0.append f1)⟩
theorem zth : Sp (U := U) zms zqr := fun l x r h => by
 unfold zms at h
 obtain ⟨x0, r0, p0, e0, f0, h⟩ := zdt.step h
 obtain ⟨x1, r1, p1, (e1 : r0 = p1 ++ r1), f1, h⟩ := zdt.step h
 obtain ⟨x2, r2, p2, (e2 : r1 = p2 ++ r2), f2, h⟩ := zdt.step h
 obtain ⟨x3, r3, p3, (e3 : r2 = p3 ++ r3), f3, h⟩ := zdt.step h
 obtain ⟨x4, r4, p4, (e4 : r3 = p4 ++ r4), f4, h⟩ := zdt.step h
 obtain ⟨x5, r5, p5, (e5 : r4 = p5 ++ r5), f5, h⟩ := zdt.step h
 obtain ⟨x6, r6, p6, (e6 : r5 = p6 ++ r6), f6, h⟩ := zdt.step h
 obtain ⟨x7, r7, p7, (e7 : r6 = p7 ++ r7), f7, h⟩ := zdt.step h
 obtain ⟨x8, r8, p8, (e8 : r7 = p8 ++ r8), f8, h⟩ := zdt.step h
 obtain ⟨x9, r9, p9, (e9 : r8 = p9 ++ r9), f9, h⟩ := zdt.step h
 obtain ⟨x10, r10, p10, (e10 : r9 = p10 ++ r10), f10, h⟩ := zdt.step h
 obtain ⟨x11, r11, p11, (e11 : r10 = p11 ++ r11), f11, h⟩ := zdt.step h
 obtain ⟨x12, r12, p12, (e12 : r11 = p12 ++ r12), f12, h⟩ := zdt.step h
 obtain ⟨x13, r13, p13, (e13 : r12 = p13 ++ r13), f13, h⟩ := zdt.step h
 obtain ⟨x14, r14, p14, (e14 : r13 = p14 ++ r14), f14, h⟩ := (za2 .i64).step h
 obtain ⟨x15, r15, p15, (e15 : r14 = p15 ++ r15), f15, h⟩ := (za2 .i64).step h
 cases h
 exact ⟨(p0 ++ (p1 ++ (p2 ++ (p3 ++ (p4 ++ (p5 ++ (p6 ++ (p7 ++ (p8 ++ (p9 ++ (p10 ++ (p11 ++ (p12 ++ (p13 ++ (p14 ++ p15))))))))))))))), by rw [e0, e1, e2, e3, e4, e5, e6, e7, e8, e9, e10, e11, e12, e13, e14, e15]; simp only [List.append_assoc], (f0.append (f1.append (f2.append (f3.append (f4.append (f5.append (f6.append (f7.append (f8.append (f9.append (f10.append (f11.append (f12.append (f13.append (f14.append f15)))))))))))))))⟩
theorem ztm : Sp (U := U) zp4 zw8 := fun l x r h => by
 unfold zp4 at h
 obtain ⟨x0, r0, p0, e0, f0, h⟩ := (za2 .i64).step h
 obtain ⟨x1, r1, p1, (e1 : r0 = p1 ++ r1), f1, h⟩ := (za2 .i64).step h
 cases h
 exact ⟨(p0 ++ p1), by rw [e0, e1]; simp only [List.append_assoc], (f0.append f1)⟩
theorem zyy : Sp (U := U) zsx zw3 := fun l x r h => by
 unfold zsx at h
 obtain ⟨x0, r0, p0, e0, f0, h⟩ := (za2 .i64).step h
 obtain ⟨x1, r1, p1, (e1 : r0 = p1 ++ r1), f1, h⟩ := ztm.step h
 obtain ⟨x2, r2, p2, (e2 : r1 = p2 ++ r2), f2, h⟩ := (za2 .i64).step h
 cases h
 exact ⟨(p0 ++ (p1 ++ p2)), by rw [e0, e1, e2]; simp only [List.append_assoc], (f0.append (f1.append f2))⟩
theorem sp : ∀ t : Ty, Sp (U := U) (rd t) (enc t)
 | .int k => za2 k
 | .bool => zdt
 | .str => zmj
 | .nil => z4h
 | .sl t => zj4 t
 | .st 0 => zsn
 | .st 1 => zol
 | .st 2 => zls
 | .st 3 => ztl
 | .st 4 => zti
 | .st 5 => zpr
 | .st 6 => zkf
 | .st 7 => zu5
 | .st 8 => zsp
 | .st 9 => zz6
 | .st 10 => zq1
 | .st 11 => zz7
 | .st 12 => ztk
 | .st 13 => ztj
 | .st 14 => z1n
 | .st 15 => zvz
 | .st 16 => zv0
 | .st 17 => zso
 | .st 18 => zv1
 | .st 19 => zq0
 | .st 20 => znu
 | .st 21 => zyz
 | .st 22 => zth
 | .st 23 => ztm
 | .st 24 => zyy
 | .st (_ + 25) => fun l x r h => by cases h
theorem z2o : ∀ (t : Ty) (x : den t), (enc t x).length = szT t
 | .int _, _ => rfl
 | .bool, _ => rfl
 | .str, _ => rfl
 | .nil, _ => rfl
 | .sl _, _ => rfl
 | .st 0, _ => rfl
 | .st 1, _ => rfl
 | .st 2, _ => rfl
 | .st 3, _ => rfl
 | .st 4, _ => rfl
 | .st 5, _ => rfl
 | .st 6, _ => rfl
 | .st 7, _ => rfl
 | .st 8, _ => rfl
 | .st 9, _ => rfl
 | .st 10, _ => rfl
 | .st 11, _ => rfl
 | .st 12, _ => rfl
 | .st 13, _ => rfl
 | .st 14, _ => rfl
 | .st 15, _ => rfl
 | .st 16, _ => rfl
 | .st 17, _ => rfl
 | .st 18, _ => rfl
 | .st 19, _ => rfl
 | .st 20, _ => rfl
 | .st 21, _ => rfl
 | .st 22, _ => rfl
 | .st 23, _ => rfl
 | .st 24, _ => rfl
 | .st (_ + 25), _ => rfl
theorem z4r : ∀ t : Ty, 0 < szT t
 | .int _ => Nat.one_pos
 | .bool => Nat.one_pos
 | .str => Nat.one_pos
 | .nil => Nat.one_pos
 | .sl _ => Nat.one_pos
 | .st 0 => (by decide : 0 < 2)
 | .st 1 => (by decide : 0 < 4)
 | .st 2 => (by decide : 0 < 2)
 | .st 3 => (by decide : 0 < 3)
 | .st 4 => (by decide : 0 < 2)
 | .st 5 => (by decide : 0 < 3)
 | .st 6 => (by decide : 0 < 3)
 | .st 7 => (by decide : 0 < 2)
 | .st 8 => (by decide : 0 < 27)
 | .st 9 => (by decide : 0 < 4)
 | .st 10 => (by decide : 0 < 4)
 | .st 11 => (by decide : 0 < 5)
 | .st 12 => (by decide : 0 < 2)
 | .st 13 => (by decide : 0 < 13)
 | .st 14 => (by decide : 0 < 1)
 | .st 15 => (by decide : 0 < 2)
 | .st 16 => (by decide : 0 < 10)
 | .st 17 => (by decide : 0 < 2)
 | .st 18 => (by decide : 0 < 4)
 | .st 19 => (by decide : 0 < 3)
 | .st 20 => (by decide : 0 < 5)
 | .st 21 => (by decide : 0 < 2)
 | .st 22 => (by decide : 0 < 16)
 | .st 23 => (by decide : 0 < 2)
 | .st 24 => (by decide : 0 < 4)
 | .st (_ + 25) => Nat.one_pos
theorem z6d : ∀ (t : Ty) (x : den t), (enc t x).all (fzc (U := U)) = true
 | .int _, _ => rfl
 | .bool, _ => rfl
 | .str, _ => rfl
 | .nil, _ => rfl
 | .sl _, _ => rfl
 | .st 0, _ => rfl
 | .st 1, _ => rfl
 | .st 2, _ => rfl
 | .st 3, _ => rfl
 | .st 4, _ => rfl
 | .st 5, _ => rfl
 | .st 6, _ => rfl
 | .st 7, _ => rfl
 | .st 8, _ => rfl
 | .st 9, _ => rfl
 | .st 10, _ => rfl
 | .st 11, _ => rfl
 | .st 12, _ => rfl
 | .st 13, _ => rfl
 | .st 14, _ => rfl
 | .st 15, _ => rfl
 | .st 16, _ => rfl
 | .st 17, _ => rfl
 | .st 18, _ => rfl
 | .st 19, _ => rfl
 | .st 20, _ => rfl
 | .st 21, _ => rfl
 | .st 22, _ => rfl
 | .st 23, _ => rfl
 | .st 24, _ => rfl
 | .st (_ + 25), _ => rfl
theorem z31 : ∀ t : Ty, z2x t = true → ∀ x : den t, (enc t x).all (zz8 (U := U)) = true
 | .int _, _, _ => rfl
 | .bool, _, _ => rfl
 | .str, _, _ => rfl
 | .nil, _, _ => rfl
 | .sl _, h, _ => by cases h
 | .st 0, _, _ => rfl
 | .st 1, _, _ => rfl
 | .st 2, _, _ => rfl
 | .st 3, _, _ => rfl
 | .st 4, h, _ => by cases h
 | .st 5, _, _ => rfl
 | .st 6, _, _ => rfl
 | .st 7, _, _ => rfl
 | .st 8, _, _ => rfl
 | .st 9, _, _ => rfl
 | .st 10, h, _ => by cases h
 | .st 11, _, _ => rfl
 | .st 12, h, _ => by cases h
 | .st 13, h, _ => by cases h
 | .st 14, h, _ => by cases h
 | .st 15, _, _ => rfl
 | .st 16, _, _ => rfl
 | .st 17, h, _ => by cases h
 | .st 18, _, _ => rfl
 | .st 19, h, _ => by cases h
 | .st 20, h, _ => by cases h
 | .st 21, _, _ => rfl
 | .st 22, _, _ => rfl
 | .st 23, _, _ => rfl
 | .st 24, _, _ => rfl
 | .st (_ + 25), _, _ => rfl
theorem z4w : ∀ t : Ty, z5e t = false → szT t = 1
 | .int _, _ => rfl
 | .bool, _ => rfl
 | .str, _ => rfl
 | .nil, _ => rfl
 | .sl _, _ => rfl
 | .st _, h => by cases h
theorem zie : ELaws En where
 sz := z2o
 pos := z4r
 fz := fun t x c hc => z2a (zym (z6d t x) hc)
 one := z4w
 reify := fun t cs x h => by
  have h' : reify t cs = some x := h; unfold reify at h'; rw [Option.bind_eq_some_iff] at h'; obtain ⟨⟨y, r⟩, h1, h2⟩ := h'; cases r with
  | cons => cases h2
  | nil =>
   cases h2; obtain ⟨p, e, f⟩ := sp t cs _ _ h1; rw [List.append_nil] at e; subst e; exact ⟨f.length.trans (z2o t _), fun j c c' g1 g2 => f.get j c c' g1 g2⟩
 flat := fun t ht x c hc => zxo (zym (z31 t ht x) hc)
 slAgg := fun _ => rfl
 slEnc := fun _ _ => rfl
 ofTo := fun _ _ => rfl
 u8sz := rfl
 u8 := fun x => ⟨x, rfl⟩
 toInts := fun xs i x n h1 h2 => by cases h2; exact h1
 toIntsLen := fun _ => rfl
 ofInts := fun l i n h => ⟨n, h, rfl⟩
 ofIntsLen := fun _ => rfl
theorem zvp {O : List (Nat × Ct U)} {X : List (Nat × Nat)} {J : List (Nat × Amx.Spec U × List Ty)} {pre : List (Nat × List Nat)} {lits ro pk bj : List Nat} : CLaws (zot O X J pre lits ro pk bj) :=
 z2f zie (l := z2t) rfl (by kernel_rfl)
def ctv (ps : List (Md U)) (res outs : List Ty) (fr : List Nat) (ts : List Ty) (f : Fnc U ts (PT U (res ++ outs))) : Ct U := { params := ps, results := res, outs := outs, fresh := fr, fn := app U ts f }
def cvv (res ts : List Ty) (f : Fnc U ts (PT U (res ++ []))) : Ct U := ctv (ts.map .val) res [] [] ts f
def K0 : Ctx U := zot [] [] [] [] [] [] [] []
@[reducible] def Kq : Type := Kp K0
structure Cf where
 X : List (Nat × Nat) := []
 J : List (Nat × Amx.Spec U × List Ty) := []
 pre : List (Nat × List Nat) := []
 lits : List Nat := []
 ro : List Nat := []
 pk : List Nat := []
 bj : List Nat := []
def cxo (l : List Kq) (c : Cf) : Ctx U := zot (Osk l) c.X c.J c.pre c.lits c.ro c.pk c.bj
theorem go (l : List Kq) (c : Cf) {f : FuncId} {fn : Func} {ps : List (Md U)} {res outs : List Ty} {fr : List Nat} {ts : List Ty} {F : Fnc U ts (PT U (res ++ outs))} (L : List (Nat × Cut U (PT U ((ctv ps res outs fr ts F).results ++ (ctv ps res outs fr ts F).outs)))) (hf : Proofs.Tryz.prog.funcs[f]? = some fn) (hn : ((fn.name == "runtime.NumGoroutine") || !fn.body.isSome) = false := by kernel_rfl)
 (hok : zt9 (cxo l c) (ctv ps res outs fr ts F) = fun _ => true := by kernel_rfl) (hr : (cur ts (z1q (cxo l c) fn (ctv ps res outs fr ts F) (pick L)) : Fnc U ts (PT U (res ++ outs))) = F := by kernel_rfl) (hL : Ls (cxo l c) fn (ctv ps res outs fr ts F) (pick L) L := by exact trivial) (hX : ∀ p ∈ c.X, z5f Proofs.Tryz.prog p := by exact all_nil) : zhk K0 f (ctv ps res outs fr ts F) := by
 rw [Bool.or_eq_false_iff] at hn
 exact zhk.ctx (C := cxo l c) (C' := K0) rfl rfl rfl (z0q (C := cxo l c) zvp (z54 (C := cxo l c) (C0 := K0) (l := l) rfl rfl rfl rfl) (zvs (l := c.X) rfl hX) hf hn.1 (by simpa using hn.2) (z4y rfl hL) (fun y => congrFun hok y) (z37 hr))
end
end Go.Proofs.YtblgefddnnlniaaGreatDoor.M
