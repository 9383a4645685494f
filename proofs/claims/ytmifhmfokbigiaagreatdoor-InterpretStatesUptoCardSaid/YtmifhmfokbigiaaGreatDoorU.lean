/- The program's types, and their cells. -/
import Derived.Test.YtmifhmfokbigiaaGreatDoorA4
import Derived.Test.YtmifhmfokbigiaaGreatDoorShelf
import Derived.KernelRfl
namespace Go.Proofs.YtmifhmfokbigiaaGreatDoor.M
open Go Go.Amx
set_option linter.unusedVariables false
set_option maxRecDepth 100000
noncomputable section
structure zQ where
 x : Int
 y : Int
 signed : Bool
 code : Int
structure zO where
 msg : ByteArray
 addr : Int
structure DataType where
 Kind : Int
 Length : Int
 Scale : Int
structure Value where
 N : Int
 S : ByteArray
structure zF where
 Name : ByteArray
 Kind : Int
 zI : DataType
 Value : Value
 Base : ByteArray
 Offset : Int
 Target : Int
structure zJ where
 Op : Int
 Args : List Int
structure zN where
 From : Int
 To : Int
 Exception : Int
 Handler : Int
structure zB where
 zA : List zF
 zG : List zJ
 zM : List zN
structure Storage where
 Bytes : ByteArray
 Tags : List Bool
structure zD where
 Storage : Storage
 At : Int
 Stack : List Int
 Lines : List ByteArray
 Status : Int
 Exception : Int
 Steps : Int
structure zP where
 Lines : List ByteArray
 Status : Int
 Exception : Int
 Steps : Int
structure zK where
 Part : Int
 Index : Int
structure Address where
 zR : Int
 Offset : Int
structure Pointer where
 Kind : Int
 Address : Address
 Authority : Int
structure Number where
 N : Int
 Scale : Int
structure zC where
 zB : zB
 zD : zD
 layout : List Int
 raised : Int
structure zT where
 Op : Int
 zI : DataType
 Half : Bool
structure zH where
 e0 : Int
 e1 : Int
 e2 : Int
 e3 : Int
structure zL where
 below : Bool
 amount : zH
 division : zH
structure zU where
 Below : Bool
 zV : List Int
structure zS where
 Top : zU
 zW : List Int
inductive Ty where
 | int (k : IntKind)
 | bool
 | str
 | nil
 | sl (t : Ty)
 | st (n : Nat)
@[reducible] def z0j : Nat → Type
 | 0 => zQ
 | 1 => zO
 | 2 => DataType
 | 3 => Value
 | 4 => zF
 | 5 => zJ
 | 6 => zN
 | 7 => zB
 | 8 => Storage
 | 9 => zD
 | 10 => zP
 | 11 => zK
 | 12 => Address
 | 13 => Pointer
 | 14 => Number
 | 15 => zC
 | 16 => zT
 | 17 => zH
 | 18 => zL
 | 19 => zU
 | 20 => zS
 | _ + 21 => Unit
@[reducible] def den : Ty → Type
 | .int _ => Int
 | .bool => Bool
 | .str => ByteArray
 | .nil => Unit
 | .sl t => List (den t)
 | .st n => z0j n
def eqTy : (a b : Ty) → Option (PLift (a = b))
 | .int j, .int k => if h : j = k then some ⟨by rw [h]⟩ else none
 | .bool, .bool => some ⟨rfl⟩
 | .str, .str => some ⟨rfl⟩
 | .nil, .nil => some ⟨rfl⟩
 | .sl a, .sl b => match eqTy a b with
  | some ⟨h⟩ => some ⟨by rw [h]⟩
  | none => none
 | .st i, .st j => if h : i = j then some ⟨by rw [h]⟩ else none
 | _, _ => none
@[reducible] def U : Uni := { Ty := Ty, den := den, eqTy := eqTy }
@[reducible] def T6 : Ty := Ty.int .i64
def w6 (n : Int) : Int := IntKind.wrap .i64 n
@[reducible] def Ty.zQ : Ty := .st 0
@[reducible] def Ty.zO : Ty := .st 1
@[reducible] def Ty.DataType : Ty := .st 2
@[reducible] def Ty.Value : Ty := .st 3
@[reducible] def Ty.zF : Ty := .st 4
@[reducible] def Ty.zJ : Ty := .st 5
@[reducible] def Ty.zN : Ty := .st 6
@[reducible] def Ty.zB : Ty := .st 7
@[reducible] def Ty.Storage : Ty := .st 8
@[reducible] def Ty.zD : Ty := .st 9
@[reducible] def Ty.zP : Ty := .st 10
@[reducible] def Ty.zK : Ty := .st 11
@[reducible] def Ty.Address : Ty := .st 12
@[reducible] def Ty.Pointer : Ty := .st 13
@[reducible] def Ty.Number : Ty := .st 14
@[reducible] def Ty.zC : Ty := .st 15
@[reducible] def Ty.zT : Ty := .st 16
@[reducible] def Ty.zH : Ty := .st 17
@[reducible] def Ty.zL : Ty := .st 18
@[reducible] def Ty.zU : Ty := .st 19
@[reducible] def Ty.zS : Ty := .st 20
def zdf (k : IntKind) : List (AV U) → Option (Int × List (AV U))
 | .sc (.int k' n) :: l => if k = k' then some (n, l) else none
 | _ => none
def zqd : List (AV U) → Option (Bool × List (AV U))
 | .sc (.bool b) :: l => some (b, l)
 | _ => none
def zru : List (AV U) → Option (ByteArray × List (AV U))
 | .sc (.string s) :: l => some (s, l)
 | _ => none
def z39 : List (AV U) → Option (Unit × List (AV U))
 | .sc (.slice none 0 0) :: l => some ((), l)
 | _ => none
def rSl (t : Ty) : List (AV U) → Option (List (den t) × List (AV U))
 | .lst t' xs :: l => (U.eqTy t' t).map fun e => (zu7 e xs, l)
 | .sc (.slice none 0 0) :: l => some ([], l)
 | _ => none
def zis (l : List (AV U)) : Option (zQ × List (AV U)) := (zdf .i64 l).bind fun x0 => (zdf .i64 x0.2).bind fun x1 => (zqd x1.2).bind fun x2 => (zdf .u8 x2.2).bind fun x3 => some (⟨x0.1, x1.1, x2.1, x3.1⟩, x3.2)
def zgh (l : List (AV U)) : Option (zO × List (AV U)) := (zru l).bind fun x0 => (zdf .u64 x0.2).bind fun x1 => some (⟨x0.1, x1.1⟩, x1.2)
def zmx (l : List (AV U)) : Option (DataType × List (AV U)) := (zdf .i64 l).bind fun x0 => (zdf .i64 x0.2).bind fun x1 => (zdf .i64 x1.2).bind fun x2 => some (⟨x0.1, x1.1, x2.1⟩, x2.2)
def zuo (l : List (AV U)) : Option (Value × List (AV U)) := (zdf .i64 l).bind fun x0 => (zru x0.2).bind fun x1 => some (⟨x0.1, x1.1⟩, x1.2)
def zqb (l : List (AV U)) : Option (zF × List (AV U)) := (zru l).bind fun x0 => (zdf .i64 x0.2).bind fun x1 => (zmx x1.2).bind fun x2 => (zuo x2.2).bind fun x3 => (zru x3.2).bind fun x4 => (zdf .i64 x4.2).bind fun x5 => (zdf .i64 x5.2).bind fun x6 => some (⟨x0.1, x1.1, x2.1, x3.1, x4.1, x5.1, x6.1⟩, x6.2)
def zmc (l : List (AV U)) : Option (zJ × List (AV U)) := (zdf .i64 l).bind fun x0 => (rSl (Ty.int .i64) x0.2).bind fun x1 => some (⟨x0.1, x1.1⟩, x1.2)
def zqc (l : List (AV U)) : Option (zN × List (AV U)) := (zdf .i64 l).bind fun x0 => (zdf .i64 x0.2).bind fun x1 => (zdf .i64 x1.2).bind fun x2 => (zdf .i64 x2.2).bind fun x3 => some (⟨x0.1, x1.1, x2.1, x3.1⟩, x3.2)
def znd (l : List (AV U)) : Option (zB × List (AV U)) := (rSl Ty.zF l).bind fun x0 => (rSl Ty.zJ x0.2).bind fun x1 => (rSl Ty.zN x1.2).bind fun x2 => some (⟨x0.1, x1.1, x2.1⟩, x2.2)
def zp9 (l : List (AV U)) : Option (Storage × List (AV U)) := (zru l).bind fun x0 => (rSl Ty.bool x0.2).bind fun x1 => some (⟨x0.1, x1.1⟩, x1.2)
def zqa (l : List (AV U)) : Option (zD × List (AV U)) := (zp9 l).bind fun x0 => (zdf .i64 x0.2).bind fun x1 => (rSl (Ty.int .i64) x1.2).bind fun x2 => (rSl Ty.str x2.2).bind fun x3 => (zdf .i64 x3.2).bind fun x4 => (zdf .i64 x4.2).bind fun x5 => (zdf .i64 x5.2).bind fun x6 => some (⟨x0.1, x1.1, x2.1, x3.1, x4.1, x5.1, x6.1⟩, x6.2)
def zrv (l : List (AV U)) : Option (zP × List (AV U)) := (rSl Ty.str l).bind fun x0 => (zdf .i64 x0.2).bind fun x1 => (zdf .i64 x1.2).bind fun x2 => (zdf .i64 x2.2).bind fun x3 => some (⟨x0.1, x1.1, x2.1, x3.1⟩, x3.2)
def ztu (l : List (AV U)) : Option (zK × List (AV U)) := (zdf .i64 l).bind fun x0 => (zdf .i64 x0.2).bind fun x1 => some (⟨x0.1, x1.1⟩, x1.2)
def zqe (l : List (AV U)) : Option (Address × List (AV U)) := (zdf .i64 l).bind fun x0 => (zdf .i64 x0.2).bind fun x1 => some (⟨x0.1, x1.1⟩, x1.2)
def ztt (l : List (AV U)) : Option (Pointer × List (AV U)) := (zdf .i64 l).bind fun x0 => (zqe x0.2).bind fun x1 => (zdf .i64 x1.2).bind fun x2 => some (⟨x0.1, x1.1, x2.1⟩, x2.2)
def zvk (l : List (AV U)) : Option (Number × List (AV U)) := (zdf .i64 l).bind fun x0 => (zdf .i64 x0.2).bind fun x1 => some (⟨x0.1, x1.1⟩, x1.2)
def zjr (l : List (AV U)) : Option (zC × List (AV U)) := (znd l).bind fun x0 => (zqa x0.2).bind fun x1 => (rSl (Ty.int .i64) x1.2).bind fun x2 => (zdf .i64 x2.2).bind fun x3 => some (⟨x0.1, x1.1, x2.1, x3.1⟩, x3.2)
def zl8 (l : List (AV U)) : Option (zT × List (AV U)) := (zdf .i64 l).bind fun x0 => (zmx x0.2).bind fun x1 => (zqd x1.2).bind fun x2 => some (⟨x0.1, x1.1, x2.1⟩, x2.2)
def zpm (l : List (AV U)) : Option (zH × List (AV U)) := (zdf .u64 l).bind fun x0 => (zdf .u64 x0.2).bind fun x1 => (zdf .u64 x1.2).bind fun x2 => (zdf .u64 x2.2).bind fun x3 => some (⟨x0.1, x1.1, x2.1, x3.1⟩, x3.2)
def zkh (l : List (AV U)) : Option (zL × List (AV U)) := (zqd l).bind fun x0 => (zpm x0.2).bind fun x1 => (zpm x1.2).bind fun x2 => some (⟨x0.1, x1.1, x2.1⟩, x2.2)
def zmo (l : List (AV U)) : Option (zU × List (AV U)) := (zqd l).bind fun x0 => (rSl (Ty.int .i64) x0.2).bind fun x1 => some (⟨x0.1, x1.1⟩, x1.2)
def zlp (l : List (AV U)) : Option (zS × List (AV U)) := (zmo l).bind fun x0 => (rSl (Ty.int .i64) x0.2).bind fun x1 => some (⟨x0.1, x1.1⟩, x1.2)
def zly (x : zQ) : List (AV U) := [.sc (.int .i64 x.x), .sc (.int .i64 x.y), .sc (.bool x.signed), .sc (.int .u8 x.code)]
def zio (x : zO) : List (AV U) := [.sc (.string x.msg), .sc (.int .u64 x.addr)]
def zwf (x : DataType) : List (AV U) := [.sc (.int .i64 x.Kind), .sc (.int .i64 x.Length), .sc (.int .i64 x.Scale)]
def z3d (x : Value) : List (AV U) := [.sc (.int .i64 x.N), .sc (.string x.S)]
def zu3 (x : zF) : List (AV U) := [.sc (.string x.Name), .sc (.int .i64 x.Kind), .sc (.int .i64 x.zI.Kind), .sc (.int .i64 x.zI.Length), .sc (.int .i64 x.zI.Scale), .sc (.int .i64 x.Value.N), .sc (.string x.Value.S), .sc (.string x.Base), .sc (.int .i64 x.Offset), .sc (.int .i64 x.Target)]
def zkf (x : zJ) : List (AV U) := [.sc (.int .i64 x.Op), .lst (Ty.int .i64) x.Args]
def zu4 (x : zN) : List (AV U) := [.sc (.int .i64 x.From), .sc (.int .i64 x.To), .sc (.int .i64 x.Exception), .sc (.int .i64 x.Handler)]
def zhv (x : zB) : List (AV U) := [.lst Ty.zF x.zA, .lst Ty.zJ x.zG, .lst Ty.zN x.zM]
def zyp (x : Storage) : List (AV U) := [.sc (.string x.Bytes), .lst Ty.bool x.Tags]
def zh5 (x : zD) : List (AV U) := [.sc (.string x.Storage.Bytes), .lst Ty.bool x.Storage.Tags, .sc (.int .i64 x.At), .lst (Ty.int .i64) x.Stack, .lst Ty.str x.Lines, .sc (.int .i64 x.Status), .sc (.int .i64 x.Exception), .sc (.int .i64 x.Steps)]
def zwe (x : zP) : List (AV U) := [.lst Ty.str x.Lines, .sc (.int .i64 x.Status), .sc (.int .i64 x.Exception), .sc (.int .i64 x.Steps)]
def zyr (x : zK) : List (AV U) := [.sc (.int .i64 x.Part), .sc (.int .i64 x.Index)]
def zys (x : Address) : List (AV U) := [.sc (.int .i64 x.zR), .sc (.int .i64 x.Offset)]
def zyq (x : Pointer) : List (AV U) := [.sc (.int .i64 x.Kind), .sc (.int .i64 x.Address.zR), .sc (.int .i64 x.Address.Offset), .sc (.int .i64 x.Authority)]
def zz1 (x : Number) : List (AV U) := [.sc (.int .i64 x.N), .sc (.int .i64 x.Scale)]
def zm4 (x : zC) : List (AV U) := [.lst Ty.zF x.zB.zA, .lst Ty.zJ x.zB.zG, .lst Ty.zN x.zB.zM, .sc (.string x.zD.Storage.Bytes), .lst Ty.bool x.zD.Storage.Tags, .sc (.int .i64 x.zD.At), .lst (Ty.int .i64) x.zD.Stack, .lst Ty.str x.zD.Lines, .sc (.int .i64 x.zD.Status), .sc (.int .i64 x.zD.Exception), .sc (.int .i64 x.zD.Steps), .lst (Ty.int .i64) x.layout, .sc (.int .i64 x.raised)]
def zps (x : zT) : List (AV U) := [.sc (.int .i64 x.Op), .sc (.int .i64 x.zI.Kind), .sc (.int .i64 x.zI.Length), .sc (.int .i64 x.zI.Scale), .sc (.bool x.Half)]
def zz2 (x : zH) : List (AV U) := [.sc (.int .u64 x.e0), .sc (.int .u64 x.e1), .sc (.int .u64 x.e2), .sc (.int .u64 x.e3)]
def zm9 (x : zL) : List (AV U) := [.sc (.bool x.below), .sc (.int .u64 x.amount.e0), .sc (.int .u64 x.amount.e1), .sc (.int .u64 x.amount.e2), .sc (.int .u64 x.amount.e3), .sc (.int .u64 x.division.e0), .sc (.int .u64 x.division.e1), .sc (.int .u64 x.division.e2), .sc (.int .u64 x.division.e3)]
def ztd (x : zU) : List (AV U) := [.sc (.bool x.Below), .lst (Ty.int .i64) x.zV]
def zov (x : zS) : List (AV U) := [.sc (.bool x.Top.Below), .lst (Ty.int .i64) x.Top.zV, .lst (Ty.int .i64) x.zW]
def z8q : (n : Nat) → z0j n → List (AV U)
 | 0, x => zly x
 | 1, x => zio x
 | 2, x => zwf x
 | 3, x => z3d x
 | 4, x => zu3 x
 | 5, x => zkf x
 | 6, x => zu4 x
 | 7, x => zhv x
 | 8, x => zyp x
 | 9, x => zh5 x
 | 10, x => zwe x
 | 11, x => zyr x
 | 12, x => zys x
 | 13, x => zyq x
 | 14, x => zz1 x
 | 15, x => zm4 x
 | 16, x => zps x
 | 17, x => zz2 x
 | 18, x => zm9 x
 | 19, x => ztd x
 | 20, x => zov x
 | _ + 21, _ => [.sc (.bool true)]
def z8v : (n : Nat) → List (AV U) → Option (z0j n × List (AV U))
 | 0, l => zis l
 | 1, l => zgh l
 | 2, l => zmx l
 | 3, l => zuo l
 | 4, l => zqb l
 | 5, l => zmc l
 | 6, l => zqc l
 | 7, l => znd l
 | 8, l => zp9 l
 | 9, l => zqa l
 | 10, l => zrv l
 | 11, l => ztu l
 | 12, l => zqe l
 | 13, l => ztt l
 | 14, l => zvk l
 | 15, l => zjr l
 | 16, l => zl8 l
 | 17, l => zpm l
 | 18, l => zkh l
 | 19, l => zmo l
 | 20, l => zlp l
 | _ + 21, _ => none
def enc : (t : Ty) → den t → List (AV U)
 | .int k, n => [.sc (.int k n)]
 | .bool, b => [.sc (.bool b)]
 | .str, s => [.sc (.string s)]
 | .nil, _ => [.sc (.slice none 0 0)]
 | .sl t, xs => [.lst t xs]
 | .st n, x => z8q n x
def rd : (t : Ty) → List (AV U) → Option (den t × List (AV U))
 | .int k, l => zdf k l
 | .bool, l => zqd l
 | .str, l => zru l
 | .nil, l => z39 l
 | .sl t, l => rSl t l
 | .st n, l => z8v n l
def reify (t : Ty) (l : List (AV U)) : Option (den t) := (rd t l).bind fun r => match r.2 with
 | [] => some r.1
 | _ => none
def z8s : Nat → Nat
 | 0 => 4
 | 1 => 2
 | 2 => 3
 | 3 => 2
 | 4 => 10
 | 5 => 2
 | 6 => 4
 | 7 => 3
 | 8 => 2
 | 9 => 8
 | 10 => 4
 | 11 => 2
 | 12 => 2
 | 13 => 4
 | 14 => 2
 | 15 => 13
 | 16 => 5
 | 17 => 4
 | 18 => 9
 | 19 => 2
 | 20 => 3
 | _ + 21 => 1
def z7g : Nat → Bool
 | 0 => true
 | 1 => true
 | 2 => true
 | 3 => true
 | 4 => true
 | 5 => false
 | 6 => true
 | 7 => false
 | 8 => false
 | 9 => false
 | 10 => false
 | 11 => true
 | 12 => true
 | 13 => true
 | 14 => true
 | 15 => false
 | 16 => true
 | 17 => true
 | 18 => true
 | 19 => false
 | 20 => false
 | _ + 21 => true
def szT : Ty → Nat
 | .st n => z8s n
 | _ => 1
def z7j : Ty → Bool
 | .st _ => true
 | _ => false
def z5b : Ty → Bool
 | .sl _ => false
 | .st n => z7g n
 | _ => true
def z48 : List (Nat × Ty) := [(2, (Ty.int .i64)), (3, (Ty.int .i64)), (4, Ty.bool), (5, (Ty.int .u8)), (6, (Ty.int .u8)), (8, Ty.zQ), (9, Ty.str), (10, Ty.str), (11, Ty.str), (12, (Ty.int .u64)), (14, Ty.zO), (21, (Ty.int .i32)), (22, (Ty.sl Ty.zF)), (23, (Ty.sl Ty.zJ)), (24, (Ty.sl Ty.zN)), (26, Ty.zB), (29, (Ty.sl Ty.zD)), (30, (Ty.int .i64)), (38, (Ty.sl Ty.bool)), (40, Ty.Storage), (41, (Ty.sl (Ty.int .i64))), (42, (Ty.sl Ty.str)), (44, Ty.zD), (47, Ty.zJ), (65, Ty.zP), (77, Ty.DataType), (79, Ty.Value), (81, Ty.zF), (89, Ty.zK), (94, Ty.zN), (110, Ty.Address), (112, Ty.Pointer), (132, Ty.Number), (136, (Ty.sl (Ty.int .i64))), (163, Ty.zC), (179, (Ty.sl (Ty.int .u8))), (210, Ty.zT), (227, (Ty.int .u64)), (249, (Ty.int .u64)), (250, Ty.zH), (251, Ty.zH), (253, Ty.zL), (257, Ty.zU), (259, Ty.zS), (271, (Ty.int .u32)), (294, (Ty.int .i8)), (309, (Ty.sl (Ty.sl (Ty.int .u8)))), (322, (Ty.int .u8)), (323, (Ty.int .u8)), (325, (Ty.int .i32)), (326, (Ty.int .i32))]
def En : Enc U := { sz := szT, agg := z7j, flat := z5b, enc := enc, reify := reify, ofGo := pick z48, sl := Ty.sl, toSl := fun _ xs => xs, ofSl := fun _ xs => xs, u8 := .int .u8, ofInts := fun l => l, toInts := fun l => l }
def zor : List (List Int) := [[0, 4], [2, 3], [2, 3, 3], [2, 3, 3], [2, 3, 3], [2, 3, 3], [2, 3, 3], [1, 4, 6], [1, 4, 6], [6], [5, 0], [5, 5], [5, 3], [6], [], [3], [2], [1], []]
def z5a : List Int := [1, 10, 100, 1000, 10000, 100000, 1000000, 10000000, 100000000, 1000000000, 10000000000, 100000000000, 1000000000000, 10000000000000, 100000000000000, 1000000000000000, 10000000000000000, 100000000000000000, 1000000000000000000, 10000000000000000000]
def z8m : List Int := [0, 1, 28, 2, 29, 14, 24, 3, 30, 22, 20, 15, 25, 17, 4, 8, 31, 27, 13, 23, 21, 19, 16, 7, 26, 12, 18, 6, 11, 5, 10, 9]
def z8l : List Int := [0, 1, 56, 2, 57, 49, 28, 3, 61, 58, 42, 50, 38, 29, 17, 4, 62, 47, 59, 36, 45, 43, 51, 22, 53, 39, 33, 30, 24, 18, 12, 5, 63, 55, 48, 27, 60, 41, 37, 16, 46, 35, 44, 21, 52, 32, 23, 11, 54, 26, 40, 15, 34, 20, 31, 10, 25, 14, 19, 9, 13, 8, 7, 6]
def globs : List (Nat × AV U) := [(0, .rarr (Ty.sl (Ty.int .i64)) zor), (2, .rarr (Ty.int .u64) z5a), (3, .rarr (Ty.int .u8) z8m), (4, .rarr (Ty.int .u8) z8l)]
def zqm (O : List (Nat × Ct U)) (X : List (Nat × Nat)) (J : List (Nat × Amx.Spec U × List Ty)) (pre : List (Nat × List Nat)) (lits ro pk bj : List Nat) : Ctx U :=
 { P := Proofs.Tryz.prog, En := En, G := pick globs, O := pick O, X := pick X, joins := pick J, pre := fun r => (pick pre r).getD [], lits := lits, ro := ro, pk := pk, bj := bj }
theorem zbn (k : IntKind) : Sp (U := U) (zdf k) (fun n : Int => [.sc (.int k n)]) := fun l x r h => by
 unfold zdf at h
 split at h
 · split at h
   · rename_i e; cases h; subst e; exact ⟨[_], rfl, F2.refl_ref _⟩
   · cases h
 · cases h
theorem zpj : Sp (U := U) zqd (fun b : Bool => [.sc (.bool b)]) := fun l x r h => by
 unfold zqd at h
 split at h
 · cases h; exact ⟨[_], rfl, F2.refl_ref _⟩
 · cases h
theorem zpi : Sp (U := U) zru (fun s : ByteArray => [.sc (.string s)]) := fun l x r h => by
 unfold zru at h
 split at h
 · cases h; exact ⟨[_], rfl, F2.refl_ref _⟩
 · cases h
theorem z6t : Sp (U := U) z39 (fun _ : Unit => [.sc (.slice none 0 0)]) := fun l x r h => by
 unfold z39 at h
 split at h
 · cases h; exact ⟨[_], rfl, F2.refl_ref _⟩
 · cases h
theorem zks (t : Ty) : Sp (U := U) (rSl t) (fun xs : List (den t) => [.lst t xs]) := fun l x r h => by
 unfold rSl at h
 split at h
 · rw [Option.map_eq_some_iff] at h; obtain ⟨⟨e⟩, _, h2⟩ := h; cases e; cases h2; exact ⟨[_], rfl, F2.refl_ref _⟩
 · cases h; exact ⟨[_], rfl, .cons (.inr ⟨rfl, _, rfl⟩) .nil⟩
 · cases h
theorem zo5 : Sp (U := U) zis zly := fun l x r h => by
 unfold zis at h
 obtain ⟨x0, r0, p0, e0, f0, h⟩ := (zbn .i64).step h
 obtain ⟨x1, r1, p1, (e1 : r0 = p1 ++ r1), f1, h⟩ := (zbn .i64).step h
 obtain ⟨x2, r2, p2, (e2 : r1 = p2 ++ r2), f2, h⟩ := zpj.step h
 obtain ⟨x3, r3, p3, (e3 : r2 = p3 ++ r3), f3, h⟩ := (zbn .u8).step h
 cases h
 exact ⟨(p0 ++ (p1 ++ (p2 ++ p3))), by rw [e0, e1, e2, e3]; simp only [List.append_assoc], (f0.append (f1.append (f2.append f3)))⟩
theorem zl5 : Sp (U := U) zgh zio := fun l x r h => by
 unfold zgh at h
 obtain ⟨x0, r0, p0, e0, f0, h⟩ := zpi.step h
 obtain ⟨x1, r1, p1, (e1 : r0 = p1 ++ r1), f1, h⟩ := (zbn .u64).step h
 cases h
 exact ⟨(p0 ++ p1), by rw [e0, e1]; simp only [List.append_assoc], (f0.append f1)⟩
theorem zo6 : Sp (U := U) zmx zwf := fun l x r h => by
 unfold zmx at h
 obtain ⟨x0, r0, p0, e0, f0, h⟩ := (zbn .i64).step h
 obtain ⟨x1, r1, p1, (e1 : r0 = p1 ++ r1), f1, h⟩ := (zbn .i64).step h
 obtain ⟨x2, r2, p2, (e2 : r1 = p2 ++ r2), f2, h⟩ := (zbn .i64).step h
 cases h
 exact ⟨(p0 ++ (p1 ++ p2)), by rw [e0, e1, e2]; simp only [List.append_assoc], (f0.append (f1.append f2))⟩
theorem zw4 : Sp (U := U) zuo z3d := fun l x r h => by
 unfold zuo at h
 obtain ⟨x0, r0, p0, e0, f0, h⟩ := (zbn .i64).step h
 obtain ⟨x1, r1, p1, (e1 : r0 = p1 ++ r1), f1, h⟩ := zpi.step h
 cases h
 exact ⟨(p0 ++ p1), by rw [e0, e1]; simp only [List.append_assoc], (f0.append f1)⟩
theorem zw5 : Sp (U := U) zqb zu3 := fun l x r h => by
 unfold zqb at h
 obtain ⟨x0, r0, p0, e0, f0, h⟩ := zpi.step h
 obtain ⟨x1, r1, p1, (e1 : r0 = p1 ++ r1), f1, h⟩ := (zbn .i64).step h
 obtain ⟨x2, r2, p2, (e2 : r1 = p2 ++ r2), f2, h⟩ := zo6.step h
 obtain ⟨x3, r3, p3, (e3 : r2 = p3 ++ r3), f3, h⟩ := zw4.step h
 obtain ⟨x4, r4, p4, (e4 : r3 = p4 ++ r4), f4, h⟩ := zpi.step h
 obtain ⟨x5, r5, p5, (e5 : r4 = p5 ++ r5), f5, h⟩ := (zbn .i64).step h
 obtain ⟨x6, r6, p6, (e6 : r5 = p6 ++ r6), f6, h⟩ := (zbn .i64).step h
 cases h
 exact ⟨(p0 ++ (p1 ++ (p2 ++ (p3 ++ (p4 ++ (p5 ++ p6)))))), by rw [e0, e1, e2, e3, e4, e5, e6]; simp only [List.append_assoc], (f0.append (f1.append (f2.append (f3.append (f4.append (f5.append f6))))))⟩
theorem ztm : Sp (U := U) zmc zkf := fun l x r h => by
 unfold zmc at h
 obtain ⟨x0, r0, p0, e0, f0, h⟩ := (zbn .i64).step h
 obtain ⟨x1, r1, p1, (e1 : r0 = p1 ++ r1), f1, h⟩ := (zks (Ty.int .i64)).step h
 cases h
 exact ⟨(p0 ++ p1), by rw [e0, e1]; simp only [List.append_assoc], (f0.append f1)⟩
theorem zw6 : Sp (U := U) zqc zu4 := fun l x r h => by
 unfold zqc at h
 obtain ⟨x0, r0, p0, e0, f0, h⟩ := (zbn .i64).step h
 obtain ⟨x1, r1, p1, (e1 : r0 = p1 ++ r1), f1, h⟩ := (zbn .i64).step h
 obtain ⟨x2, r2, p2, (e2 : r1 = p2 ++ r2), f2, h⟩ := (zbn .i64).step h
 obtain ⟨x3, r3, p3, (e3 : r2 = p3 ++ r3), f3, h⟩ := (zbn .i64).step h
 cases h
 exact ⟨(p0 ++ (p1 ++ (p2 ++ p3))), by rw [e0, e1, e2, e3]; simp only [List.append_assoc], (f0.append (f1.append (f2.append f3)))⟩
theorem zrj : Sp (U := U) znd zhv := fun l x r h => by
 unfold znd at h
 obtain ⟨x0, r0, p0, e0, f0, h⟩ := (zks Ty.zF).step h
 obtain ⟨x1, r1, p1, (e1 : r0 = p1 ++ r1), f1, h⟩ := (zks Ty.zJ).step h
 obtain ⟨x2, r2, p2, (e2 : r1 = p2 ++ r2), f2, h⟩ := (zks Ty.zN).step h
 cases h
 exact ⟨(p0 ++ (p1 ++ p2)), by rw [e0, e1, e2]; simp only [List.append_assoc], (f0.append (f1.append f2))⟩
theorem zub : Sp (U := U) zp9 zyp := fun l x r h => by
 unfold zp9 at h
 obtain ⟨x0, r0, p0, e0, f0, h⟩ := zpi.step h
 obtain ⟨x1, r1, p1, (e1 : r0 = p1 ++ r1), f1, h⟩ := (zks Ty.bool).step h
 cases h
 exact ⟨(p0 ++ p1), by rw [e0, e1]; simp only [List.append_assoc], (f0.append f1)⟩
theorem zuc : Sp (U := U) zqa zh5 := fun l x r h => by
 unfold zqa at h
 obtain ⟨x0, r0, p0, e0, f0, h⟩ := zub.step h
 obtain ⟨x1, r1, p1, (e1 : r0 = p1 ++ r1), f1, h⟩ := (zbn .i64).step h
 obtain ⟨x2, r2, p2, (e2 : r1 = p2 ++ r2), f2, h⟩ := (zks (Ty.int .i64)).step h
 obtain ⟨x3, r3, p3, (e3 : r2 = p3 ++ r3), f3, h⟩ := (zks Ty.str).step h
 obtain ⟨x4, r4, p4, (e4 : r3 = p4 ++ r4), f4, h⟩ := (zbn .i64).step h
 obtain ⟨x5, r5, p5, (e5 : r4 = p5 ++ r5), f5, h⟩ := (zbn .i64).step h
 obtain ⟨x6, r6, p6, (e6 : r5 = p6 ++ r6), f6, h⟩ := (zbn .i64).step h
 cases h
 exact ⟨(p0 ++ (p1 ++ (p2 ++ (p3 ++ (p4 ++ (p5 ++ p6)))))), by rw [e0, e1, e2, e3, e4, e5, e6]; simp only [List.append_assoc], (f0.append (f1.append (f2.append (f3.append (f4.append (f5.append f6))))))⟩
theorem zy6 : Sp (U := U) zrv zwe := fun l x r h => by
 unfold zrv at h
 obtain ⟨x0, r0, p0, e0, f0, h⟩ := (zks Ty.str).step h
 obtain ⟨x1, r1, p1, (e1 : r0 = p1 ++ r1), f1, h⟩ := (zbn .i64).step h
 obtain ⟨x2, r2, p2, (e2 : r1 = p2 ++ r2), f2, h⟩ := (zbn .i64).step h
 obtain ⟨x3, r3, p3, (e3 : r2 = p3 ++ r3), f3, h⟩ := (zbn .i64).step h
 cases h
 exact ⟨(p0 ++ (p1 ++ (p2 ++ p3))), by rw [e0, e1, e2, e3]; simp only [List.append_assoc], (f0.append (f1.append (f2.append f3)))⟩
theorem z0l : Sp (U := U) ztu zyr := fun l x r h => by
 unfold ztu at h
 obtain ⟨x0, r0, p0, e0, f0, h⟩ := (zbn .i64).step h
 obtain ⟨x1, r1, p1, (e1 : r0 = p1 ++ r1), f1, h⟩ := (zbn .i64).step h
 cases h
 exact ⟨(p0 ++ p1), by rw [e0, e1]; simp only [List.append_assoc], (f0.append f1)⟩
theorem zud : Sp (U := U) zqe zys := fun l x r h => by
 unfold zqe at h
 obtain ⟨x0, r0, p0, e0, f0, h⟩ := (zbn .i64).step h
 obtain ⟨x1, r1, p1, (e1 : r0 = p1 ++ r1), f1, h⟩ := (zbn .i64).step h
 cases h
 exact ⟨(p0 ++ p1), by rw [e0, e1]; simp only [List.append_assoc], (f0.append f1)⟩
theorem z0k : Sp (U := U) ztt zyq := fun l x r h => by
 unfold ztt at h
 obtain ⟨x0, r0, p0, e0, f0, h⟩ := (zbn .i64).step h
 obtain ⟨x1, r1, p1, (e1 : r0 = p1 ++ r1), f1, h⟩ := zud.step h
 obtain ⟨x2, r2, p2, (e2 : r1 = p2 ++ r2), f2, h⟩ := (zbn .i64).step h
 cases h
 exact ⟨(p0 ++ (p1 ++ p2)), by rw [e0, e1, e2]; simp only [List.append_assoc], (f0.append (f1.append f2))⟩
theorem z16 : Sp (U := U) zvk zz1 := fun l x r h => by
 unfold zvk at h
 obtain ⟨x0, r0, p0, e0, f0, h⟩ := (zbn .i64).step h
 obtain ⟨x1, r1, p1, (e1 : r0 = p1 ++ r1), f1, h⟩ := (zbn .i64).step h
 cases h
 exact ⟨(p0 ++ p1), by rw [e0, e1]; simp only [List.append_assoc], (f0.append f1)⟩
theorem zp3 : Sp (U := U) zjr zm4 := fun l x r h => by
 unfold zjr at h
 obtain ⟨x0, r0, p0, e0, f0, h⟩ := zrj.step h
 obtain ⟨x1, r1, p1, (e1 : r0 = p1 ++ r1), f1, h⟩ := zuc.step h
 obtain ⟨x2, r2, p2, (e2 : r1 = p2 ++ r2), f2, h⟩ := (zks (Ty.int .i64)).step h
 obtain ⟨x3, r3, p3, (e3 : r2 = p3 ++ r3), f3, h⟩ := (zbn .i64).step h
 cases h
 exact ⟨(p0 ++ (p1 ++ (p2 ++ p3))), by rw [e0, e1, e2, e3]; simp only [List.append_assoc], (f0.append (f1.append (f2.append f3)))⟩
theorem ztl : Sp (U := U) zl8 zps := fun l x r h => by
 unfold zl8 at h
 obtain ⟨x0, r0, p0, e0, f0, h⟩ := (zbn .i64).step h
 obtain ⟨x1, r1, p1, (e1 : r0 = p1 ++ r1), f1, h⟩ := zo6.step h
 obtain ⟨x2, r2, p2, (e2 : r1 = p2 ++ r2), f2, h⟩ := zpj.step h
 cases h
 exact ⟨(p0 ++ (p1 ++ p2)), by rw [e0, e1, e2]; simp only [List.append_assoc], (f0.append (f1.append f2))⟩
theorem zrk : Sp (U := U) zpm zz2 := fun l x r h => by
 unfold zpm at h
 obtain ⟨x0, r0, p0, e0, f0, h⟩ := (zbn .u64).step h
 obtain ⟨x1, r1, p1, (e1 : r0 = p1 ++ r1), f1, h⟩ := (zbn .u64).step h
 obtain ⟨x2, r2, p2, (e2 : r1 = p2 ++ r2), f2, h⟩ := (zbn .u64).step h
 obtain ⟨x3, r3, p3, (e3 : r2 = p3 ++ r3), f3, h⟩ := (zbn .u64).step h
 cases h
 exact ⟨(p0 ++ (p1 ++ (p2 ++ p3))), by rw [e0, e1, e2, e3]; simp only [List.append_assoc], (f0.append (f1.append (f2.append f3)))⟩
theorem zrc : Sp (U := U) zkh zm9 := fun l x r h => by
 unfold zkh at h
 obtain ⟨x0, r0, p0, e0, f0, h⟩ := zpj.step h
 obtain ⟨x1, r1, p1, (e1 : r0 = p1 ++ r1), f1, h⟩ := zrk.step h
 obtain ⟨x2, r2, p2, (e2 : r1 = p2 ++ r2), f2, h⟩ := zrk.step h
 cases h
 exact ⟨(p0 ++ (p1 ++ p2)), by rw [e0, e1, e2]; simp only [List.append_assoc], (f0.append (f1.append f2))⟩
theorem zq6 : Sp (U := U) zmo ztd := fun l x r h => by
 unfold zmo at h
 obtain ⟨x0, r0, p0, e0, f0, h⟩ := zpj.step h
 obtain ⟨x1, r1, p1, (e1 : r0 = p1 ++ r1), f1, h⟩ := (zks (Ty.int .i64)).step h
 cases h
 exact ⟨(p0 ++ p1), by rw [e0, e1]; simp only [List.append_assoc], (f0.append f1)⟩
theorem zst : Sp (U := U) zlp zov := fun l x r h => by
 unfold zlp at h
 obtain ⟨x0, r0, p0, e0, f0, h⟩ := zq6.step h
 obtain ⟨x1, r1, p1, (e1 : r0 = p1 ++ r1), f1, h⟩ := (zks (Ty.int .i64)).step h
 cases h
 exact ⟨(p0 ++ p1), by rw [e0, e1]; simp only [List.append_assoc], (f0.append f1)⟩
theorem sp : ∀ t : Ty, Sp (U := U) (rd t) (enc t)
 | .int k => zbn k
 | .bool => zpj
 | .str => zpi
 | .nil => z6t
 | .sl t => zks t
 | .st 0 => zo5
 | .st 1 => zl5
 | .st 2 => zo6
 | .st 3 => zw4
 | .st 4 => zw5
 | .st 5 => ztm
 | .st 6 => zw6
 | .st 7 => zrj
 | .st 8 => zub
 | .st 9 => zuc
 | .st 10 => zy6
 | .st 11 => z0l
 | .st 12 => zud
 | .st 13 => z0k
 | .st 14 => z16
 | .st 15 => zp3
 | .st 16 => ztl
 | .st 17 => zrk
 | .st 18 => zrc
 | .st 19 => zq6
 | .st 20 => zst
 | .st (_ + 21) => fun l x r h => by cases h
theorem z44 : ∀ (t : Ty) (x : den t), (enc t x).length = szT t
 | .int _, _ => rfl
 | .bool, _ => rfl
 | .str, _ => rfl
 | .nil, _ => rfl
 | .sl _, _ => rfl
 | .st 0, _ => rfl
 | .st 1, _ => rfl
 | .st 2, _ => rfl
 | .st 3, _ => rfl
 | .st 4, _ => rfl
 | .st 5, _ => rfl
 | .st 6, _ => rfl
 | .st 7, _ => rfl
 | .st 8, _ => rfl
 | .st 9, _ => rfl
 | .st 10, _ => rfl
 | .st 11, _ => rfl
 | .st 12, _ => rfl
 | .st 13, _ => rfl
 | .st 14, _ => rfl
 | .st 15, _ => rfl
 | .st 16, _ => rfl
 | .st 17, _ => rfl
 | .st 18, _ => rfl
 | .st 19, _ => rfl
 | .st 20, _ => rfl
 | .st (_ + 21), _ => rfl
theorem z61 : ∀ t : Ty, 0 < szT t
 | .int _ => Nat.one_pos
 | .bool => Nat.one_pos
 | .str => Nat.one_pos
 | .nil => Nat.one_pos
 | .sl _ => Nat.one_pos
 | .st 0 => (by decide : 0 < 4)
 | .st 1 => (by decide : 0 < 2)
 | .st 2 => (by decide : 0 < 3)
 | .st 3 => (by decide : 0 < 2)
 | .st 4 => (by decide : 0 < 10)
 | .st 5 => (by decide : 0 < 2)
 | .st 6 => (by decide : 0 < 4)
 | .st 7 => (by decide : 0 < 3)
 | .st 8 => (by decide : 0 < 2)
 | .st 9 => (by decide : 0 < 8)
 | .st 10 => (by decide : 0 < 4)
 | .st 11 => (by decide : 0 < 2)
 | .st 12 => (by decide : 0 < 2)
 | .st 13 => (by decide : 0 < 4)
 | .st 14 => (by decide : 0 < 2)
 | .st 15 => (by decide : 0 < 13)
 | .st 16 => (by decide : 0 < 5)
 | .st 17 => (by decide : 0 < 4)
 | .st 18 => (by decide : 0 < 9)
 | .st 19 => (by decide : 0 < 2)
 | .st 20 => (by decide : 0 < 3)
 | .st (_ + 21) => Nat.one_pos
theorem z8n : ∀ (t : Ty) (x : den t), (enc t x).all (fzc (U := U)) = true
 | .int _, _ => rfl
 | .bool, _ => rfl
 | .str, _ => rfl
 | .nil, _ => rfl
 | .sl _, _ => rfl
 | .st 0, _ => rfl
 | .st 1, _ => rfl
 | .st 2, _ => rfl
 | .st 3, _ => rfl
 | .st 4, _ => rfl
 | .st 5, _ => rfl
 | .st 6, _ => rfl
 | .st 7, _ => rfl
 | .st 8, _ => rfl
 | .st 9, _ => rfl
 | .st 10, _ => rfl
 | .st 11, _ => rfl
 | .st 12, _ => rfl
 | .st 13, _ => rfl
 | .st 14, _ => rfl
 | .st 15, _ => rfl
 | .st 16, _ => rfl
 | .st 17, _ => rfl
 | .st 18, _ => rfl
 | .st 19, _ => rfl
 | .st 20, _ => rfl
 | .st (_ + 21), _ => rfl
theorem z6f : ∀ t : Ty, z5b t = true → ∀ x : den t, (enc t x).all (z18 (U := U)) = true
 | .int _, _, _ => rfl
 | .bool, _, _ => rfl
 | .str, _, _ => rfl
 | .nil, _, _ => rfl
 | .sl _, h, _ => by cases h
 | .st 0, _, _ => rfl
 | .st 1, _, _ => rfl
 | .st 2, _, _ => rfl
 | .st 3, _, _ => rfl
 | .st 4, _, _ => rfl
 | .st 5, h, _ => by cases h
 | .st 6, _, _ => rfl
 | .st 7, h, _ => by cases h
 | .st 8, h, _ => by cases h
 | .st 9, h, _ => by cases h
 | .st 10, h, _ => by cases h
 | .st 11, _, _ => rfl
 | .st 12, _, _ => rfl
 | .st 13, _, _ => rfl
 | .st 14, _, _ => rfl
 | .st 15, h, _ => by cases h
 | .st 16, _, _ => rfl
 | .st 17, _, _ => rfl
 | .st 18, _, _ => rfl
 | .st 19, h, _ => by cases h
 | .st 20, h, _ => by cases h
 | .st (_ + 21), _, _ => rfl
theorem z68 : ∀ t : Ty, z7j t = false → szT t = 1
 | .int _, _ => rfl
 | .bool, _ => rfl
 | .str, _ => rfl
 | .nil, _ => rfl
 | .sl _, _ => rfl
 | .st _, h => by cases h
theorem zia : ELaws En where
 sz := z44
 pos := z61
 fz := fun t x c hc => z4r (zz9 (z8n t x) hc)
 one := z68
 reify := fun t cs x h => by
  have h' : reify t cs = some x := h; unfold reify at h'; rw [Option.bind_eq_some_iff] at h'; obtain ⟨⟨y, r⟩, h1, h2⟩ := h'; cases r with
  | cons => cases h2
  | nil =>
   cases h2; obtain ⟨p, e, f⟩ := sp t cs _ _ h1; rw [List.append_nil] at e; subst e; exact ⟨f.length.trans (z44 t _), fun j c c' g1 g2 => f.get j c c' g1 g2⟩
 flat := fun t ht x c hc => zy9 (zz9 (z6f t ht x) hc)
 slAgg := fun _ => rfl
 slEnc := fun _ _ => rfl
 ofTo := fun _ _ => rfl
 u8sz := rfl
 u8 := fun x => ⟨x, rfl⟩
 toInts := fun xs i x n h1 h2 => by cases h2; exact h1
 toIntsLen := fun _ => rfl
 ofInts := fun l i n h => ⟨n, h, rfl⟩
 ofIntsLen := fun _ => rfl
theorem zu6 {O : List (Nat × Ct U)} {X : List (Nat × Nat)} {J : List (Nat × Amx.Spec U × List Ty)} {pre : List (Nat × List Nat)} {lits ro pk bj : List Nat} : CLaws (zqm O X J pre lits ro pk bj) :=
 z4w zia (l := z48) rfl (by kernel_rfl)
def ctv (ps : List (Md U)) (res outs : List Ty) (fr : List Nat) (ts : List Ty) (f : Fnc U ts (PT U (res ++ outs))) : Ct U := { params := ps, results := res, outs := outs, fresh := fr, fn := app U ts f }
def cvv (res ts : List Ty) (f : Fnc U ts (PT U (res ++ []))) : Ct U := ctv (ts.map .val) res [] [] ts f
def K0 : Ctx U := zqm [] [] [] [] [] [] [] []
@[reducible] def Kq : Type := Kp K0
structure Cf where
 X : List (Nat × Nat) := []
 J : List (Nat × Amx.Spec U × List Ty) := []
 pre : List (Nat × List Nat) := []
 lits : List Nat := []
 ro : List Nat := []
 pk : List Nat := []
 bj : List Nat := []
def cxo (l : List Kq) (c : Cf) : Ctx U := zqm (Osk l) c.X c.J c.pre c.lits c.ro c.pk c.bj
theorem go (l : List Kq) (c : Cf) {f : FuncId} {fn : Func} {ps : List (Md U)} {res outs : List Ty} {fr : List Nat} {ts : List Ty} {F : Fnc U ts (PT U (res ++ outs))} (L : List (Nat × Cut U (PT U ((ctv ps res outs fr ts F).results ++ (ctv ps res outs fr ts F).outs)))) (hf : Proofs.Tryz.prog.funcs[f]? = some fn) (hn : ((fn.name == "runtime.NumGoroutine") || !fn.body.isSome) = false := by kernel_rfl)
 (hok : zu2 (cxo l c) (ctv ps res outs fr ts F) = fun _ => true := by kernel_rfl) (hr : (cur ts (z3z (cxo l c) fn (ctv ps res outs fr ts F) (pick L)) : Fnc U ts (PT U (res ++ outs))) = F := by kernel_rfl) (hL : Ls (cxo l c) fn (ctv ps res outs fr ts F) (pick L) L := by exact trivial) (hX : ∀ p ∈ c.X, zse Proofs.Tryz.prog p := by exact zdb) : zgv K0 f (ctv ps res outs fr ts F) := by
 rw [Bool.or_eq_false_iff] at hn
 exact zgv.ctx (C := cxo l c) (C' := K0) rfl rfl rfl (z2z (C := cxo l c) zu6 (z8h (C := cxo l c) (C0 := K0) (l := l) rfl rfl rfl rfl) (zt9 (l := c.X) rfl hX) hf hn.1 (by simpa using hn.2) (z7a rfl hL) (fun y => congrFun hok y) (z6i hr))
theorem z7n : zse Proofs.Tryz.prog (263, 2) := z5e Proofs.Tryz.func263 (by kernel_rfl) (by kernel_rfl) (by kernel_rfl) (by kernel_rfl)
theorem z42 : zse Proofs.Tryz.prog (268, 0) := z1v Proofs.Tryz.func268 (by kernel_rfl) (by kernel_rfl) (by kernel_rfl) (by kernel_rfl)
theorem z7m : zse Proofs.Tryz.prog (276, 1) := z1u Proofs.Tryz.func276 (by kernel_rfl) (by kernel_rfl) (by kernel_rfl) (by kernel_rfl)
end
end Go.Proofs.YtmifhmfokbigiaaGreatDoor.M
