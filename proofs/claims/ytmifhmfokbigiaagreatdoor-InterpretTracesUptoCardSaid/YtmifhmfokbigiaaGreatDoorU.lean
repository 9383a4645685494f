/- The program's types, and their cells. -/
import Derived.Test.YtmifhmfokbigiaaGreatDoorA3
import Derived.Test.YtmifhmfokbigiaaGreatDoorShelf
import Derived.KernelRfl
namespace Go.Proofs.YtmifhmfokbigiaaGreatDoor.M
open Go Go.Amx
set_option linter.unusedVariables false
set_option maxRecDepth 100000
noncomputable section
structure zU where
 x : Int
 y : Int
 signed : Bool
 code : Int
structure zR where
 msg : ByteArray
 addr : Int
structure DataType where
 Kind : Int
 Length : Int
 Scale : Int
structure Value where
 N : Int
 S : ByteArray
structure zF where
 Name : ByteArray
 Kind : Int
 zK : DataType
 Value : Value
 Base : ByteArray
 Offset : Int
 Target : Int
structure zI where
 Op : Int
 Args : List Int
structure zN where
 From : Int
 To : Int
 Exception : Int
 Handler : Int
structure zB where
 zA : List zF
 zG : List zI
 zL : List zN
structure Storage where
 Bytes : ByteArray
 Tags : List Bool
structure zC where
 Storage : Storage
 At : Int
 Stack : List Int
 Lines : List ByteArray
 Status : Int
 Exception : Int
 Steps : Int
structure zT where
 Lines : List ByteArray
 Status : Int
 Exception : Int
 Steps : Int
structure zM where
 Part : Int
 Index : Int
structure Address where
 zV : Int
 Offset : Int
structure Pointer where
 Kind : Int
 Address : Address
 Authority : Int
structure Number where
 N : Int
 Scale : Int
structure zD where
 zB : zB
 zC : zC
 layout : List Int
 raised : Int
structure zS where
 Op : Int
 zK : DataType
 Half : Bool
structure zH where
 e0 : Int
 e1 : Int
 e2 : Int
 e3 : Int
structure zO where
 below : Bool
 amount : zH
 division : zH
structure zJ where
 Below : Bool
 zQ : List Int
structure zP where
 Top : zJ
 zW : List Int
inductive Ty where
 | int (k : IntKind)
 | bool
 | str
 | nil
 | sl (t : Ty)
 | st (n : Nat)
@[reducible] def z6j : Nat → Type
 | 0 => zU
 | 1 => zR
 | 2 => DataType
 | 3 => Value
 | 4 => zF
 | 5 => zI
 | 6 => zN
 | 7 => zB
 | 8 => Storage
 | 9 => zC
 | 10 => zT
 | 11 => zM
 | 12 => Address
 | 13 => Pointer
 | 14 => Number
 | 15 => zD
 | 16 => zS
 | 17 => zH
 | 18 => zO
 | 19 => zJ
 | 20 => zP
 | _ + 21 => Unit
@[reducible] def den : Ty → Type
 | .int _ => Int
 | .bool => Bool
 | .str => ByteArray
 | .nil => Unit
 | .sl t => List (den t)
 | .st n => z6j n
def eqTy : (a b : Ty) → Option (PLift (a = b))
 | .int j, .int k => if h : j = k then some ⟨by rw [h]⟩ else none
 | .bool, .bool => some ⟨rfl⟩
 | .str, .str => some ⟨rfl⟩
 | .nil, .nil => some ⟨rfl⟩
 | .sl a, .sl b => match eqTy a b with
  | some ⟨h⟩ => some ⟨by rw [h]⟩
  | none => none
 | .st i, .st j => if h : i = j then some ⟨by rw [h]⟩ else none
 | _, _ => none
@[reducible] def U : Uni := { Ty := Ty, den := den, eqTy := eqTy }
@[reducible] def T6 : Ty := Ty.int .i64
def w6 (n : Int) : Int := IntKind.wrap .i64 n
@[reducible] def Ty.zU : Ty := .st 0
@[reducible] def Ty.zR : Ty := .st 1
@[reducible] def Ty.DataType : Ty := .st 2
@[reducible] def Ty.Value : Ty := .st 3
@[reducible] def Ty.zF : Ty := .st 4
@[reducible] def Ty.zI : Ty := .st 5
@[reducible] def Ty.zN : Ty := .st 6
@[reducible] def Ty.zB : Ty := .st 7
@[reducible] def Ty.Storage : Ty := .st 8
@[reducible] def Ty.zC : Ty := .st 9
@[reducible] def Ty.zT : Ty := .st 10
@[reducible] def Ty.zM : Ty := .st 11
@[reducible] def Ty.Address : Ty := .st 12
@[reducible] def Ty.Pointer : Ty := .st 13
@[reducible] def Ty.Number : Ty := .st 14
@[reducible] def Ty.zD : Ty := .st 15
@[reducible] def Ty.zS : Ty := .st 16
@[reducible] def Ty.zH : Ty := .st 17
@[reducible] def Ty.zO : Ty := .st 18
@[reducible] def Ty.zJ : Ty := .st 19
@[reducible] def Ty.zP : Ty := .st 20
def zen (k : IntKind) : List (AV U) → Option (Int × List (AV U))
 | .sc (.int k' n) :: l => if k = k' then some (n, l) else none
 | _ => none
def ztt : List (AV U) → Option (Bool × List (AV U))
 | .sc (.bool b) :: l => some (b, l)
 | _ => none
def zvq : List (AV U) → Option (ByteArray × List (AV U))
 | .sc (.string s) :: l => some (s, l)
 | _ => none
def rNil : List (AV U) → Option (Unit × List (AV U))
 | .sc (.slice none 0 0) :: l => some ((), l)
 | _ => none
def rSl (t : Ty) : List (AV U) → Option (List (den t) × List (AV U))
 | .lst t' xs :: l => (U.eqTy t' t).map fun e => (zzx e xs, l)
 | .sc (.slice none 0 0) :: l => some ([], l)
 | _ => none
def zkp (l : List (AV U)) : Option (zU × List (AV U)) := (zen .i64 l).bind fun x0 => (zen .i64 x0.2).bind fun x1 => (ztt x1.2).bind fun x2 => (zen .u8 x2.2).bind fun x3 => some (⟨x0.1, x1.1, x2.1, x3.1⟩, x3.2)
def zh2 (l : List (AV U)) : Option (zR × List (AV U)) := (zvq l).bind fun x0 => (zen .u64 x0.2).bind fun x1 => some (⟨x0.1, x1.1⟩, x1.2)
def zpr (l : List (AV U)) : Option (DataType × List (AV U)) := (zen .i64 l).bind fun x0 => (zen .i64 x0.2).bind fun x1 => (zen .i64 x1.2).bind fun x2 => some (⟨x0.1, x1.1, x2.1⟩, x2.2)
def zy6 (l : List (AV U)) : Option (Value × List (AV U)) := (zen .i64 l).bind fun x0 => (zvq x0.2).bind fun x1 => some (⟨x0.1, x1.1⟩, x1.2)
def ztr (l : List (AV U)) : Option (zF × List (AV U)) := (zvq l).bind fun x0 => (zen .i64 x0.2).bind fun x1 => (zpr x1.2).bind fun x2 => (zy6 x2.2).bind fun x3 => (zvq x3.2).bind fun x4 => (zen .i64 x4.2).bind fun x5 => (zen .i64 x5.2).bind fun x6 => some (⟨x0.1, x1.1, x2.1, x3.1, x4.1, x5.1, x6.1⟩, x6.2)
def zoq (l : List (AV U)) : Option (zI × List (AV U)) := (zen .i64 l).bind fun x0 => (rSl (Ty.int .i64) x0.2).bind fun x1 => some (⟨x0.1, x1.1⟩, x1.2)
def zts (l : List (AV U)) : Option (zN × List (AV U)) := (zen .i64 l).bind fun x0 => (zen .i64 x0.2).bind fun x1 => (zen .i64 x1.2).bind fun x2 => (zen .i64 x2.2).bind fun x3 => some (⟨x0.1, x1.1, x2.1, x3.1⟩, x3.2)
def zqi (l : List (AV U)) : Option (zB × List (AV U)) := (rSl Ty.zF l).bind fun x0 => (rSl Ty.zI x0.2).bind fun x1 => (rSl Ty.zN x1.2).bind fun x2 => some (⟨x0.1, x1.1, x2.1⟩, x2.2)
def ztp (l : List (AV U)) : Option (Storage × List (AV U)) := (zvq l).bind fun x0 => (rSl Ty.bool x0.2).bind fun x1 => some (⟨x0.1, x1.1⟩, x1.2)
def ztq (l : List (AV U)) : Option (zC × List (AV U)) := (ztp l).bind fun x0 => (zen .i64 x0.2).bind fun x1 => (rSl (Ty.int .i64) x1.2).bind fun x2 => (rSl Ty.str x2.2).bind fun x3 => (zen .i64 x3.2).bind fun x4 => (zen .i64 x4.2).bind fun x5 => (zen .i64 x5.2).bind fun x6 => some (⟨x0.1, x1.1, x2.1, x3.1, x4.1, x5.1, x6.1⟩, x6.2)
def zvr (l : List (AV U)) : Option (zT × List (AV U)) := (rSl Ty.str l).bind fun x0 => (zen .i64 x0.2).bind fun x1 => (zen .i64 x1.2).bind fun x2 => (zen .i64 x2.2).bind fun x3 => some (⟨x0.1, x1.1, x2.1, x3.1⟩, x3.2)
def zx8 (l : List (AV U)) : Option (zM × List (AV U)) := (zen .i64 l).bind fun x0 => (zen .i64 x0.2).bind fun x1 => some (⟨x0.1, x1.1⟩, x1.2)
def ztu (l : List (AV U)) : Option (Address × List (AV U)) := (zen .i64 l).bind fun x0 => (zen .i64 x0.2).bind fun x1 => some (⟨x0.1, x1.1⟩, x1.2)
def zx7 (l : List (AV U)) : Option (Pointer × List (AV U)) := (zen .i64 l).bind fun x0 => (ztu x0.2).bind fun x1 => (zen .i64 x1.2).bind fun x2 => some (⟨x0.1, x1.1, x2.1⟩, x2.2)
def zz9 (l : List (AV U)) : Option (Number × List (AV U)) := (zen .i64 l).bind fun x0 => (zen .i64 x0.2).bind fun x1 => some (⟨x0.1, x1.1⟩, x1.2)
def zlm (l : List (AV U)) : Option (zD × List (AV U)) := (zqi l).bind fun x0 => (ztq x0.2).bind fun x1 => (rSl (Ty.int .i64) x1.2).bind fun x2 => (zen .i64 x2.2).bind fun x3 => some (⟨x0.1, x1.1, x2.1, x3.1⟩, x3.2)
def zol (l : List (AV U)) : Option (zS × List (AV U)) := (zen .i64 l).bind fun x0 => (zpr x0.2).bind fun x1 => (ztt x1.2).bind fun x2 => some (⟨x0.1, x1.1, x2.1⟩, x2.2)
def zsu (l : List (AV U)) : Option (zH × List (AV U)) := (zen .u64 l).bind fun x0 => (zen .u64 x0.2).bind fun x1 => (zen .u64 x1.2).bind fun x2 => (zen .u64 x2.2).bind fun x3 => some (⟨x0.1, x1.1, x2.1, x3.1⟩, x3.2)
def zmd (l : List (AV U)) : Option (zO × List (AV U)) := (ztt l).bind fun x0 => (zsu x0.2).bind fun x1 => (zsu x1.2).bind fun x2 => some (⟨x0.1, x1.1, x2.1⟩, x2.2)
def zpa (l : List (AV U)) : Option (zJ × List (AV U)) := (ztt l).bind fun x0 => (rSl (Ty.int .i64) x0.2).bind fun x1 => some (⟨x0.1, x1.1⟩, x1.2)
def znw (l : List (AV U)) : Option (zP × List (AV U)) := (zpa l).bind fun x0 => (rSl (Ty.int .i64) x0.2).bind fun x1 => some (⟨x0.1, x1.1⟩, x1.2)
def zoa (x : zU) : List (AV U) := [.sc (.int .i64 x.x), .sc (.int .i64 x.y), .sc (.bool x.signed), .sc (.int .u8 x.code)]
def zkn (x : zR) : List (AV U) := [.sc (.string x.msg), .sc (.int .u64 x.addr)]
def z1k (x : DataType) : List (AV U) := [.sc (.int .i64 x.Kind), .sc (.int .i64 x.Length), .sc (.int .i64 x.Scale)]
def z9g (x : Value) : List (AV U) := [.sc (.int .i64 x.N), .sc (.string x.S)]
def zzq (x : zF) : List (AV U) := [.sc (.string x.Name), .sc (.int .i64 x.Kind), .sc (.int .i64 x.zK.Kind), .sc (.int .i64 x.zK.Length), .sc (.int .i64 x.zK.Scale), .sc (.int .i64 x.Value.N), .sc (.string x.Value.S), .sc (.string x.Base), .sc (.int .i64 x.Offset), .sc (.int .i64 x.Target)]
def zl9 (x : zI) : List (AV U) := [.sc (.int .i64 x.Op), .lst (Ty.int .i64) x.Args]
def zzr (x : zN) : List (AV U) := [.sc (.int .i64 x.From), .sc (.int .i64 x.To), .sc (.int .i64 x.Exception), .sc (.int .i64 x.Handler)]
def zjn (x : zB) : List (AV U) := [.lst Ty.zF x.zA, .lst Ty.zI x.zG, .lst Ty.zN x.zL]
def z35 (x : Storage) : List (AV U) := [.sc (.string x.Bytes), .lst Ty.bool x.Tags]
def z37 (x : zC) : List (AV U) := [.sc (.string x.Storage.Bytes), .lst Ty.bool x.Storage.Tags, .sc (.int .i64 x.At), .lst (Ty.int .i64) x.Stack, .lst Ty.str x.Lines, .sc (.int .i64 x.Status), .sc (.int .i64 x.Exception), .sc (.int .i64 x.Steps)]
def z1j (x : zT) : List (AV U) := [.lst Ty.str x.Lines, .sc (.int .i64 x.Status), .sc (.int .i64 x.Exception), .sc (.int .i64 x.Steps)]
def z38 (x : zM) : List (AV U) := [.sc (.int .i64 x.Part), .sc (.int .i64 x.Index)]
def z39 (x : Address) : List (AV U) := [.sc (.int .i64 x.zV), .sc (.int .i64 x.Offset)]
def z36 (x : Pointer) : List (AV U) := [.sc (.int .i64 x.Kind), .sc (.int .i64 x.Address.zV), .sc (.int .i64 x.Address.Offset), .sc (.int .i64 x.Authority)]
def z50 (x : Number) : List (AV U) := [.sc (.int .i64 x.N), .sc (.int .i64 x.Scale)]
def zp4 (x : zD) : List (AV U) := [.lst Ty.zF x.zB.zA, .lst Ty.zI x.zB.zG, .lst Ty.zN x.zB.zL, .sc (.string x.zC.Storage.Bytes), .lst Ty.bool x.zC.Storage.Tags, .sc (.int .i64 x.zC.At), .lst (Ty.int .i64) x.zC.Stack, .lst Ty.str x.zC.Lines, .sc (.int .i64 x.zC.Status), .sc (.int .i64 x.zC.Exception), .sc (.int .i64 x.zC.Steps), .lst (Ty.int .i64) x.layout, .sc (.int .i64 x.raised)]
def zs2 (x : zS) : List (AV U) := [.sc (.int .i64 x.Op), .sc (.int .i64 x.zK.Kind), .sc (.int .i64 x.zK.Length), .sc (.int .i64 x.zK.Scale), .sc (.bool x.Half)]
def z51 (x : zH) : List (AV U) := [.sc (.int .u64 x.e0), .sc (.int .u64 x.e1), .sc (.int .u64 x.e2), .sc (.int .u64 x.e3)]
def zqb (x : zO) : List (AV U) := [.sc (.bool x.below), .sc (.int .u64 x.amount.e0), .sc (.int .u64 x.amount.e1), .sc (.int .u64 x.amount.e2), .sc (.int .u64 x.amount.e3), .sc (.int .u64 x.division.e0), .sc (.int .u64 x.division.e1), .sc (.int .u64 x.division.e2), .sc (.int .u64 x.division.e3)]
def zxn (x : zJ) : List (AV U) := [.sc (.bool x.Below), .lst (Ty.int .i64) x.zQ]
def zr3 (x : zP) : List (AV U) := [.sc (.bool x.Top.Below), .lst (Ty.int .i64) x.Top.zQ, .lst (Ty.int .i64) x.zW]
def zaf3 : (n : Nat) → z6j n → List (AV U)
 | 0, x => zoa x
 | 1, x => zkn x
 | 2, x => z1k x
 | 3, x => z9g x
 | 4, x => zzq x
 | 5, x => zl9 x
 | 6, x => zzr x
 | 7, x => zjn x
 | 8, x => z35 x
 | 9, x => z37 x
 | 10, x => z1j x
 | 11, x => z38 x
 | 12, x => z39 x
 | 13, x => z36 x
 | 14, x => z50 x
 | 15, x => zp4 x
 | 16, x => zs2 x
 | 17, x => z51 x
 | 18, x => zqb x
 | 19, x => zxn x
 | 20, x => zr3 x
 | _ + 21, _ => [.sc (.bool true)]
def rdSt : (n : Nat) → List (AV U) → Option (z6j n × List (AV U))
 | 0, l => zkp l
 | 1, l => zh2 l
 | 2, l => zpr l
 | 3, l => zy6 l
 | 4, l => ztr l
 | 5, l => zoq l
 | 6, l => zts l
 | 7, l => zqi l
 | 8, l => ztp l
 | 9, l => ztq l
 | 10, l => zvr l
 | 11, l => zx8 l
 | 12, l => ztu l
 | 13, l => zx7 l
 | 14, l => zz9 l
 | 15, l => zlm l
 | 16, l => zol l
 | 17, l => zsu l
 | 18, l => zmd l
 | 19, l => zpa l
 | 20, l => znw l
 | _ + 21, _ => none
def enc : (t : Ty) → den t → List (AV U)
 | .int k, n => [.sc (.int k n)]
 | .bool, b => [.sc (.bool b)]
 | .str, s => [.sc (.string s)]
 | .nil, _ => [.sc (.slice none 0 0)]
 | .sl t, xs => [.lst t xs]
 | .st n, x => zaf3 n x
def rd : (t : Ty) → List (AV U) → Option (den t × List (AV U))
 | .int k, l => zen k l
 | .bool, l => ztt l
 | .str, l => zvq l
 | .nil, l => rNil l
 | .sl t, l => rSl t l
 | .st n, l => rdSt n l
def reify (t : Ty) (l : List (AV U)) : Option (den t) := (rd t l).bind fun r => match r.2 with
 | [] => some r.1
 | _ => none
def szSt : Nat → Nat
 | 0 => 4
 | 1 => 2
 | 2 => 3
 | 3 => 2
 | 4 => 10
 | 5 => 2
 | 6 => 4
 | 7 => 3
 | 8 => 2
 | 9 => 8
 | 10 => 4
 | 11 => 2
 | 12 => 2
 | 13 => 4
 | 14 => 2
 | 15 => 13
 | 16 => 5
 | 17 => 4
 | 18 => 9
 | 19 => 2
 | 20 => 3
 | _ + 21 => 1
def zaer : Nat → Bool
 | 0 => true
 | 1 => true
 | 2 => true
 | 3 => true
 | 4 => true
 | 5 => false
 | 6 => true
 | 7 => false
 | 8 => false
 | 9 => false
 | 10 => false
 | 11 => true
 | 12 => true
 | 13 => true
 | 14 => true
 | 15 => false
 | 16 => true
 | 17 => true
 | 18 => true
 | 19 => false
 | 20 => false
 | _ + 21 => true
def szT : Ty → Nat
 | .st n => szSt n
 | _ => 1
def aggT : Ty → Bool
 | .st _ => true
 | _ => false
def zabq : Ty → Bool
 | .sl _ => false
 | .st n => zaer n
 | _ => true
def zabn : List (Nat × Ty) := [(2, (Ty.int .i64)), (3, (Ty.int .i64)), (4, Ty.bool), (5, (Ty.int .u8)), (6, (Ty.int .u8)), (8, Ty.zU), (9, Ty.str), (10, Ty.str), (11, Ty.str), (12, (Ty.int .u64)), (14, Ty.zR), (21, (Ty.int .i32)), (22, (Ty.sl Ty.zF)), (23, (Ty.sl Ty.zI)), (24, (Ty.sl Ty.zN)), (26, Ty.zB), (29, (Ty.sl Ty.zC)), (30, (Ty.int .i64)), (38, (Ty.sl Ty.bool)), (40, Ty.Storage), (41, (Ty.sl (Ty.int .i64))), (42, (Ty.sl Ty.str)), (44, Ty.zC), (47, Ty.zI), (65, Ty.zT), (77, Ty.DataType), (79, Ty.Value), (81, Ty.zF), (89, Ty.zM), (94, Ty.zN), (110, Ty.Address), (112, Ty.Pointer), (132, Ty.Number), (136, (Ty.sl (Ty.int .i64))), (163, Ty.zD), (179, (Ty.sl (Ty.int .u8))), (210, Ty.zS), (227, (Ty.int .u64)), (249, (Ty.int .u64)), (250, Ty.zH), (251, Ty.zH), (253, Ty.zO), (257, Ty.zJ), (259, Ty.zP), (271, (Ty.int .u32)), (294, (Ty.int .i8)), (309, (Ty.sl (Ty.sl (Ty.int .u8)))), (322, (Ty.int .u8)), (323, (Ty.int .u8)), (325, (Ty.int .i32)), (326, (Ty.int .i32))]
def En : Enc U := { sz := szT, agg := aggT, flat := zabq, enc := enc, reify := reify, ofGo := pick zabn, sl := Ty.sl, toSl := fun _ xs => xs, ofSl := fun _ xs => xs, u8 := .int .u8, ofInts := fun l => l, toInts := fun l => l }
def zrz : List (List Int) := [[0, 4], [2, 3], [2, 3, 3], [2, 3, 3], [2, 3, 3], [2, 3, 3], [2, 3, 3], [1, 4, 6], [1, 4, 6], [6], [5, 0], [5, 5], [5, 3], [6], [], [3], [2], [1], []]
def zabp : List Int := [1, 10, 100, 1000, 10000, 100000, 1000000, 10000000, 100000000, 1000000000, 10000000000, 100000000000, 1000000000000, 10000000000000, 100000000000000, 1000000000000000, 10000000000000000, 100000000000000000, 1000000000000000000, 10000000000000000000]
def zaf0 : List Int := [0, 1, 28, 2, 29, 14, 24, 3, 30, 22, 20, 15, 25, 17, 4, 8, 31, 27, 13, 23, 21, 19, 16, 7, 26, 12, 18, 6, 11, 5, 10, 9]
def zafz : List Int := [0, 1, 56, 2, 57, 49, 28, 3, 61, 58, 42, 50, 38, 29, 17, 4, 62, 47, 59, 36, 45, 43, 51, 22, 53, 39, 33, 30, 24, 18, 12, 5, 63, 55, 48, 27, 60, 41, 37, 16, 46, 35, 44, 21, 52, 32, 23, 11, 54, 26, 40, 15, 34, 20, 31, 10, 25, 14, 19, 9, 13, 8, 7, 6]
def globs : List (Nat × AV U) := [(0, .rarr (Ty.sl (Ty.int .i64)) zrz), (2, .rarr (Ty.int .u64) zabp), (3, .rarr (Ty.int .u8) zaf0), (4, .rarr (Ty.int .u8) zafz)]
def zt6 (O : List (Nat × Ct U)) (X : List (Nat × Nat)) (J : List (Nat × Amx.Spec U × List Ty)) (pre : List (Nat × List Nat)) (lits ro pk bj : List Nat) : Ctx U :=
 { P := Proofs.Tryz.prog, En := En, G := pick globs, O := pick O, X := pick X, joins := pick J, pre := fun r => (pick pre r).getD [], lits := lits, ro := ro, pk := pk, bj := bj }
theorem zcc (k : IntKind) : Sp (U := U) (zen k) (fun n : Int => [.sc (.int k n)]) := fun l x r h => by
 unfold zen at h
 split at h
 · split at h
   · rename_i e; cases h; subst e; exact ⟨[_], rfl, F2.refl_ref _⟩
   · cases h
 · cases h
theorem zss : Sp (U := U) ztt (fun b : Bool => [.sc (.bool b)]) := fun l x r h => by
 unfold ztt at h
 split at h
 · cases h; exact ⟨[_], rfl, F2.refl_ref _⟩
 · cases h
theorem zsr : Sp (U := U) zvq (fun s : ByteArray => [.sc (.string s)]) := fun l x r h => by
 unfold zvq at h
 split at h
 · cases h; exact ⟨[_], rfl, F2.refl_ref _⟩
 · cases h
theorem zadw : Sp (U := U) rNil (fun _ : Unit => [.sc (.slice none 0 0)]) := fun l x r h => by
 unfold rNil at h
 split at h
 · cases h; exact ⟨[_], rfl, F2.refl_ref _⟩
 · cases h
theorem zmr (t : Ty) : Sp (U := U) (rSl t) (fun xs : List (den t) => [.lst t xs]) := fun l x r h => by
 unfold rSl at h
 split at h
 · rw [Option.map_eq_some_iff] at h; obtain ⟨⟨e⟩, _, h2⟩ := h; cases e; cases h2; exact ⟨[_], rfl, F2.refl_ref _⟩
 · cases h; exact ⟨[_], rfl, .cons (.inr ⟨rfl, _, rfl⟩) .nil⟩
 · cases h
theorem zsd : Sp (U := U) zkp zoa := fun l x r h => by
 unfold zkp at h
 obtain ⟨x0, r0, p0, e0, f0, h⟩ := (zcc .i64).step h
 obtain ⟨x1, r1, p1, (e1 : r0 = p1 ++ r1), f1, h⟩ := (zcc .i64).step h
 obtain ⟨x2, r2, p2, (e2 : r1 = p2 ++ r2), f2, h⟩ := zss.step h
 obtain ⟨x3, r3, p3, (e3 : r2 = p3 ++ r3), f3, h⟩ := (zcc .u8).step h
 cases h
 exact ⟨(p0 ++ (p1 ++ (p2 ++ p3))), by rw [e0, e1, e2, e3]; simp only [List.append_assoc], (f0.append (f1.append (f2.append f3)))⟩
theorem zoi : Sp (U := U) zh2 zkn := fun l x r h => by
 unfold zh2 at h
 obtain ⟨x0, r0, p0, e0, f0, h⟩ := zsr.step h
 obtain ⟨x1, r1, p1, (e1 : r0 = p1 ++ r1), f1, h⟩ := (zcc .u64).step h
 cases h
 exact ⟨(p0 ++ p1), by rw [e0, e1]; simp only [List.append_assoc], (f0.append f1)⟩
theorem zse : Sp (U := U) zpr z1k := fun l x r h => by
 unfold zpr at h
 obtain ⟨x0, r0, p0, e0, f0, h⟩ := (zcc .i64).step h
 obtain ⟨x1, r1, p1, (e1 : r0 = p1 ++ r1), f1, h⟩ := (zcc .i64).step h
 obtain ⟨x2, r2, p2, (e2 : r1 = p2 ++ r2), f2, h⟩ := (zcc .i64).step h
 cases h
 exact ⟨(p0 ++ (p1 ++ p2)), by rw [e0, e1, e2]; simp only [List.append_assoc], (f0.append (f1.append f2))⟩
theorem z2d : Sp (U := U) zy6 z9g := fun l x r h => by
 unfold zy6 at h
 obtain ⟨x0, r0, p0, e0, f0, h⟩ := (zcc .i64).step h
 obtain ⟨x1, r1, p1, (e1 : r0 = p1 ++ r1), f1, h⟩ := zsr.step h
 cases h
 exact ⟨(p0 ++ p1), by rw [e0, e1]; simp only [List.append_assoc], (f0.append f1)⟩
theorem z2e : Sp (U := U) ztr zzq := fun l x r h => by
 unfold ztr at h
 obtain ⟨x0, r0, p0, e0, f0, h⟩ := zsr.step h
 obtain ⟨x1, r1, p1, (e1 : r0 = p1 ++ r1), f1, h⟩ := (zcc .i64).step h
 obtain ⟨x2, r2, p2, (e2 : r1 = p2 ++ r2), f2, h⟩ := zse.step h
 obtain ⟨x3, r3, p3, (e3 : r2 = p3 ++ r3), f3, h⟩ := z2d.step h
 obtain ⟨x4, r4, p4, (e4 : r3 = p4 ++ r4), f4, h⟩ := zsr.step h
 obtain ⟨x5, r5, p5, (e5 : r4 = p5 ++ r5), f5, h⟩ := (zcc .i64).step h
 obtain ⟨x6, r6, p6, (e6 : r5 = p6 ++ r6), f6, h⟩ := (zcc .i64).step h
 cases h
 exact ⟨(p0 ++ (p1 ++ (p2 ++ (p3 ++ (p4 ++ (p5 ++ p6)))))), by rw [e0, e1, e2, e3, e4, e5, e6]; simp only [List.append_assoc], (f0.append (f1.append (f2.append (f3.append (f4.append (f5.append f6))))))⟩
theorem zxw : Sp (U := U) zoq zl9 := fun l x r h => by
 unfold zoq at h
 obtain ⟨x0, r0, p0, e0, f0, h⟩ := (zcc .i64).step h
 obtain ⟨x1, r1, p1, (e1 : r0 = p1 ++ r1), f1, h⟩ := (zmr (Ty.int .i64)).step h
 cases h
 exact ⟨(p0 ++ p1), by rw [e0, e1]; simp only [List.append_assoc], (f0.append f1)⟩
theorem z2f : Sp (U := U) zts zzr := fun l x r h => by
 unfold zts at h
 obtain ⟨x0, r0, p0, e0, f0, h⟩ := (zcc .i64).step h
 obtain ⟨x1, r1, p1, (e1 : r0 = p1 ++ r1), f1, h⟩ := (zcc .i64).step h
 obtain ⟨x2, r2, p2, (e2 : r1 = p2 ++ r2), f2, h⟩ := (zcc .i64).step h
 obtain ⟨x3, r3, p3, (e3 : r2 = p3 ++ r3), f3, h⟩ := (zcc .i64).step h
 cases h
 exact ⟨(p0 ++ (p1 ++ (p2 ++ p3))), by rw [e0, e1, e2, e3]; simp only [List.append_assoc], (f0.append (f1.append (f2.append f3)))⟩
theorem zva : Sp (U := U) zqi zjn := fun l x r h => by
 unfold zqi at h
 obtain ⟨x0, r0, p0, e0, f0, h⟩ := (zmr Ty.zF).step h
 obtain ⟨x1, r1, p1, (e1 : r0 = p1 ++ r1), f1, h⟩ := (zmr Ty.zI).step h
 obtain ⟨x2, r2, p2, (e2 : r1 = p2 ++ r2), f2, h⟩ := (zmr Ty.zN).step h
 cases h
 exact ⟨(p0 ++ (p1 ++ p2)), by rw [e0, e1, e2]; simp only [List.append_assoc], (f0.append (f1.append f2))⟩
theorem zyt : Sp (U := U) ztp z35 := fun l x r h => by
 unfold ztp at h
 obtain ⟨x0, r0, p0, e0, f0, h⟩ := zsr.step h
 obtain ⟨x1, r1, p1, (e1 : r0 = p1 ++ r1), f1, h⟩ := (zmr Ty.bool).step h
 cases h
 exact ⟨(p0 ++ p1), by rw [e0, e1]; simp only [List.append_assoc], (f0.append f1)⟩
theorem zyu : Sp (U := U) ztq z37 := fun l x r h => by
 unfold ztq at h
 obtain ⟨x0, r0, p0, e0, f0, h⟩ := zyt.step h
 obtain ⟨x1, r1, p1, (e1 : r0 = p1 ++ r1), f1, h⟩ := (zcc .i64).step h
 obtain ⟨x2, r2, p2, (e2 : r1 = p2 ++ r2), f2, h⟩ := (zmr (Ty.int .i64)).step h
 obtain ⟨x3, r3, p3, (e3 : r2 = p3 ++ r3), f3, h⟩ := (zmr Ty.str).step h
 obtain ⟨x4, r4, p4, (e4 : r3 = p4 ++ r4), f4, h⟩ := (zcc .i64).step h
 obtain ⟨x5, r5, p5, (e5 : r4 = p5 ++ r5), f5, h⟩ := (zcc .i64).step h
 obtain ⟨x6, r6, p6, (e6 : r5 = p6 ++ r6), f6, h⟩ := (zcc .i64).step h
 cases h
 exact ⟨(p0 ++ (p1 ++ (p2 ++ (p3 ++ (p4 ++ (p5 ++ p6)))))), by rw [e0, e1, e2, e3, e4, e5, e6]; simp only [List.append_assoc], (f0.append (f1.append (f2.append (f3.append (f4.append (f5.append f6))))))⟩
theorem z4r : Sp (U := U) zvr z1j := fun l x r h => by
 unfold zvr at h
 obtain ⟨x0, r0, p0, e0, f0, h⟩ := (zmr Ty.str).step h
 obtain ⟨x1, r1, p1, (e1 : r0 = p1 ++ r1), f1, h⟩ := (zcc .i64).step h
 obtain ⟨x2, r2, p2, (e2 : r1 = p2 ++ r2), f2, h⟩ := (zcc .i64).step h
 obtain ⟨x3, r3, p3, (e3 : r2 = p3 ++ r3), f3, h⟩ := (zcc .i64).step h
 cases h
 exact ⟨(p0 ++ (p1 ++ (p2 ++ p3))), by rw [e0, e1, e2, e3]; simp only [List.append_assoc], (f0.append (f1.append (f2.append f3)))⟩
theorem z6l : Sp (U := U) zx8 z38 := fun l x r h => by
 unfold zx8 at h
 obtain ⟨x0, r0, p0, e0, f0, h⟩ := (zcc .i64).step h
 obtain ⟨x1, r1, p1, (e1 : r0 = p1 ++ r1), f1, h⟩ := (zcc .i64).step h
 cases h
 exact ⟨(p0 ++ p1), by rw [e0, e1]; simp only [List.append_assoc], (f0.append f1)⟩
theorem zyv : Sp (U := U) ztu z39 := fun l x r h => by
 unfold ztu at h
 obtain ⟨x0, r0, p0, e0, f0, h⟩ := (zcc .i64).step h
 obtain ⟨x1, r1, p1, (e1 : r0 = p1 ++ r1), f1, h⟩ := (zcc .i64).step h
 cases h
 exact ⟨(p0 ++ p1), by rw [e0, e1]; simp only [List.append_assoc], (f0.append f1)⟩
theorem z6k : Sp (U := U) zx7 z36 := fun l x r h => by
 unfold zx7 at h
 obtain ⟨x0, r0, p0, e0, f0, h⟩ := (zcc .i64).step h
 obtain ⟨x1, r1, p1, (e1 : r0 = p1 ++ r1), f1, h⟩ := zyv.step h
 obtain ⟨x2, r2, p2, (e2 : r1 = p2 ++ r2), f2, h⟩ := (zcc .i64).step h
 cases h
 exact ⟨(p0 ++ (p1 ++ p2)), by rw [e0, e1, e2]; simp only [List.append_assoc], (f0.append (f1.append f2))⟩
theorem z74 : Sp (U := U) zz9 z50 := fun l x r h => by
 unfold zz9 at h
 obtain ⟨x0, r0, p0, e0, f0, h⟩ := (zcc .i64).step h
 obtain ⟨x1, r1, p1, (e1 : r0 = p1 ++ r1), f1, h⟩ := (zcc .i64).step h
 cases h
 exact ⟨(p0 ++ p1), by rw [e0, e1]; simp only [List.append_assoc], (f0.append f1)⟩
theorem zth : Sp (U := U) zlm zp4 := fun l x r h => by
 unfold zlm at h
 obtain ⟨x0, r0, p0, e0, f0, h⟩ := zva.step h
 obtain ⟨x1, r1, p1, (e1 : r0 = p1 ++ r1), f1, h⟩ := zyu.step h
 obtain ⟨x2, r2, p2, (e2 : r1 = p2 ++ r2), f2, h⟩ := (zmr (Ty.int .i64)).step h
 obtain ⟨x3, r3, p3, (e3 : r2 = p3 ++ r3), f3, h⟩ := (zcc .i64).step h
 cases h
 exact ⟨(p0 ++ (p1 ++ (p2 ++ p3))), by rw [e0, e1, e2, e3]; simp only [List.append_assoc], (f0.append (f1.append (f2.append f3)))⟩
theorem zxv : Sp (U := U) zol zs2 := fun l x r h => by
 unfold zol at h
 obtain ⟨x0, r0, p0, e0, f0, h⟩ := (zcc .i64).step h
 obtain ⟨x1, r1, p1, (e1 : r0 = p1 ++ r1), f1, h⟩ := zse.step h
 obtain ⟨x2, r2, p2, (e2 : r1 = p2 ++ r2), f2, h⟩ := zss.step h
 cases h
 exact ⟨(p0 ++ (p1 ++ p2)), by rw [e0, e1, e2]; simp only [List.append_assoc], (f0.append (f1.append f2))⟩
theorem zvb : Sp (U := U) zsu z51 := fun l x r h => by
 unfold zsu at h
 obtain ⟨x0, r0, p0, e0, f0, h⟩ := (zcc .u64).step h
 obtain ⟨x1, r1, p1, (e1 : r0 = p1 ++ r1), f1, h⟩ := (zcc .u64).step h
 obtain ⟨x2, r2, p2, (e2 : r1 = p2 ++ r2), f2, h⟩ := (zcc .u64).step h
 obtain ⟨x3, r3, p3, (e3 : r2 = p3 ++ r3), f3, h⟩ := (zcc .u64).step h
 cases h
 exact ⟨(p0 ++ (p1 ++ (p2 ++ p3))), by rw [e0, e1, e2, e3]; simp only [List.append_assoc], (f0.append (f1.append (f2.append f3)))⟩
theorem zu3 : Sp (U := U) zmd zqb := fun l x r h => by
 unfold zmd at h
 obtain ⟨x0, r0, p0, e0, f0, h⟩ := zss.step h
 obtain ⟨x1, r1, p1, (e1 : r0 = p1 ++ r1), f1, h⟩ := zvb.step h
 obtain ⟨x2, r2, p2, (e2 : r1 = p2 ++ r2), f2, h⟩ := zvb.step h
 cases h
 exact ⟨(p0 ++ (p1 ++ p2)), by rw [e0, e1, e2]; simp only [List.append_assoc], (f0.append (f1.append f2))⟩
theorem zuw : Sp (U := U) zpa zxn := fun l x r h => by
 unfold zpa at h
 obtain ⟨x0, r0, p0, e0, f0, h⟩ := zss.step h
 obtain ⟨x1, r1, p1, (e1 : r0 = p1 ++ r1), f1, h⟩ := (zmr (Ty.int .i64)).step h
 cases h
 exact ⟨(p0 ++ p1), by rw [e0, e1]; simp only [List.append_assoc], (f0.append f1)⟩
theorem zw3 : Sp (U := U) znw zr3 := fun l x r h => by
 unfold znw at h
 obtain ⟨x0, r0, p0, e0, f0, h⟩ := zuw.step h
 obtain ⟨x1, r1, p1, (e1 : r0 = p1 ++ r1), f1, h⟩ := (zmr (Ty.int .i64)).step h
 cases h
 exact ⟨(p0 ++ p1), by rw [e0, e1]; simp only [List.append_assoc], (f0.append f1)⟩
theorem sp : ∀ t : Ty, Sp (U := U) (rd t) (enc t)
 | .int k => zcc k
 | .bool => zss
 | .str => zsr
 | .nil => zadw
 | .sl t => zmr t
 | .st 0 => zsd
 | .st 1 => zoi
 | .st 2 => zse
 | .st 3 => z2d
 | .st 4 => z2e
 | .st 5 => zxw
 | .st 6 => z2f
 | .st 7 => zva
 | .st 8 => zyt
 | .st 9 => zyu
 | .st 10 => z4r
 | .st 11 => z6l
 | .st 12 => zyv
 | .st 13 => z6k
 | .st 14 => z74
 | .st 15 => zth
 | .st 16 => zxv
 | .st 17 => zvb
 | .st 18 => zu3
 | .st 19 => zuw
 | .st 20 => zw3
 | .st (_ + 21) => fun l x r h => by cases h
theorem zabl : ∀ (t : Ty) (x : den t), (enc t x).length = szT t
 | .int _, _ => rfl
 | .bool, _ => rfl
 | .str, _ => rfl
 | .nil, _ => rfl
 | .sl _, _ => rfl
 | .st 0, _ => rfl
 | .st 1, _ => rfl
 | .st 2, _ => rfl
 | .st 3, _ => rfl
 | .st 4, _ => rfl
 | .st 5, _ => rfl
 | .st 6, _ => rfl
 | .st 7, _ => rfl
 | .st 8, _ => rfl
 | .st 9, _ => rfl
 | .st 10, _ => rfl
 | .st 11, _ => rfl
 | .st 12, _ => rfl
 | .st 13, _ => rfl
 | .st 14, _ => rfl
 | .st 15, _ => rfl
 | .st 16, _ => rfl
 | .st 17, _ => rfl
 | .st 18, _ => rfl
 | .st 19, _ => rfl
 | .st 20, _ => rfl
 | .st (_ + 21), _ => rfl
theorem zad7 : ∀ t : Ty, 0 < szT t
 | .int _ => Nat.one_pos
 | .bool => Nat.one_pos
 | .str => Nat.one_pos
 | .nil => Nat.one_pos
 | .sl _ => Nat.one_pos
 | .st 0 => (by decide : 0 < 4)
 | .st 1 => (by decide : 0 < 2)
 | .st 2 => (by decide : 0 < 3)
 | .st 3 => (by decide : 0 < 2)
 | .st 4 => (by decide : 0 < 10)
 | .st 5 => (by decide : 0 < 2)
 | .st 6 => (by decide : 0 < 4)
 | .st 7 => (by decide : 0 < 3)
 | .st 8 => (by decide : 0 < 2)
 | .st 9 => (by decide : 0 < 8)
 | .st 10 => (by decide : 0 < 4)
 | .st 11 => (by decide : 0 < 2)
 | .st 12 => (by decide : 0 < 2)
 | .st 13 => (by decide : 0 < 4)
 | .st 14 => (by decide : 0 < 2)
 | .st 15 => (by decide : 0 < 13)
 | .st 16 => (by decide : 0 < 5)
 | .st 17 => (by decide : 0 < 4)
 | .st 18 => (by decide : 0 < 9)
 | .st 19 => (by decide : 0 < 2)
 | .st 20 => (by decide : 0 < 3)
 | .st (_ + 21) => Nat.one_pos
theorem zaf1 : ∀ (t : Ty) (x : den t), (enc t x).all (fzc (U := U)) = true
 | .int _, _ => rfl
 | .bool, _ => rfl
 | .str, _ => rfl
 | .nil, _ => rfl
 | .sl _, _ => rfl
 | .st 0, _ => rfl
 | .st 1, _ => rfl
 | .st 2, _ => rfl
 | .st 3, _ => rfl
 | .st 4, _ => rfl
 | .st 5, _ => rfl
 | .st 6, _ => rfl
 | .st 7, _ => rfl
 | .st 8, _ => rfl
 | .st 9, _ => rfl
 | .st 10, _ => rfl
 | .st 11, _ => rfl
 | .st 12, _ => rfl
 | .st 13, _ => rfl
 | .st 14, _ => rfl
 | .st 15, _ => rfl
 | .st 16, _ => rfl
 | .st 17, _ => rfl
 | .st 18, _ => rfl
 | .st 19, _ => rfl
 | .st 20, _ => rfl
 | .st (_ + 21), _ => rfl
theorem zacx : ∀ t : Ty, zabq t = true → ∀ x : den t, (enc t x).all (z76 (U := U)) = true
 | .int _, _, _ => rfl
 | .bool, _, _ => rfl
 | .str, _, _ => rfl
 | .nil, _, _ => rfl
 | .sl _, h, _ => by cases h
 | .st 0, _, _ => rfl
 | .st 1, _, _ => rfl
 | .st 2, _, _ => rfl
 | .st 3, _, _ => rfl
 | .st 4, _, _ => rfl
 | .st 5, h, _ => by cases h
 | .st 6, _, _ => rfl
 | .st 7, h, _ => by cases h
 | .st 8, h, _ => by cases h
 | .st 9, h, _ => by cases h
 | .st 10, h, _ => by cases h
 | .st 11, _, _ => rfl
 | .st 12, _, _ => rfl
 | .st 13, _, _ => rfl
 | .st 14, _, _ => rfl
 | .st 15, h, _ => by cases h
 | .st 16, _, _ => rfl
 | .st 17, _, _ => rfl
 | .st 18, _, _ => rfl
 | .st 19, h, _ => by cases h
 | .st 20, h, _ => by cases h
 | .st (_ + 21), _, _ => rfl
theorem zaec : ∀ t : Ty, aggT t = false → szT t = 1
 | .int _, _ => rfl
 | .bool, _ => rfl
 | .str, _ => rfl
 | .nil, _ => rfl
 | .sl _, _ => rfl
 | .st _, h => by cases h
theorem zm0 : ELaws En where
 sz := zabl
 pos := zad7
 fz := fun t x c hc => zaa5 (z56 (zaf1 t x) hc)
 one := zaec
 reify := fun t cs x h => by
  have h' : reify t cs = some x := h; unfold reify at h'; rw [Option.bind_eq_some_iff] at h'; obtain ⟨⟨y, r⟩, h1, h2⟩ := h'; cases r with
  | cons => cases h2
  | nil =>
   cases h2; obtain ⟨p, e, f⟩ := sp t cs _ _ h1; rw [List.append_nil] at e; subst e; exact ⟨f.length.trans (zabl t _), fun j c c' g1 g2 => f.get j c c' g1 g2⟩
 flat := fun t ht x c hc => z4u (z56 (zacx t ht x) hc)
 slAgg := fun _ => rfl
 slEnc := fun _ _ => rfl
 ofTo := fun _ _ => rfl
 u8sz := rfl
 u8 := fun x => ⟨x, rfl⟩
 toInts := fun xs i x n h1 h2 => by cases h2; exact h1
 toIntsLen := fun _ => rfl
 ofInts := fun l i n h => ⟨n, h, rfl⟩
 ofIntsLen := fun _ => rfl
theorem zzw {O : List (Nat × Ct U)} {X : List (Nat × Nat)} {J : List (Nat × Amx.Spec U × List Ty)} {pre : List (Nat × List Nat)} {lits ro pk bj : List Nat} : CLaws (zt6 O X J pre lits ro pk bj) :=
 zabc zm0 (l := zabn) rfl (by kernel_rfl)
def ctv (ps : List (Md U)) (res outs : List Ty) (fr : List Nat) (ts : List Ty) (f : Fnc U ts (PT U (res ++ outs))) : Ct U := { params := ps, results := res, outs := outs, fresh := fr, fn := app U ts f }
def cvv (res ts : List Ty) (f : Fnc U ts (PT U (res ++ []))) : Ct U := ctv (ts.map .val) res [] [] ts f
def K0 : Ctx U := zt6 [] [] [] [] [] [] [] []
@[reducible] def Kq : Type := Kp K0
structure Cf where
 X : List (Nat × Nat) := []
 J : List (Nat × Amx.Spec U × List Ty) := []
 pre : List (Nat × List Nat) := []
 lits : List Nat := []
 ro : List Nat := []
 pk : List Nat := []
 bj : List Nat := []
def cxo (l : List Kq) (c : Cf) : Ctx U := zt6 (Osk l) c.X c.J c.pre c.lits c.ro c.pk c.bj
theorem go (l : List Kq) (c : Cf) {f : FuncId} {fn : Func} {ps : List (Md U)} {res outs : List Ty} {fr : List Nat} {ts : List Ty} {F : Fnc U ts (PT U (res ++ outs))} (L : List (Nat × Cut U (PT U ((ctv ps res outs fr ts F).results ++ (ctv ps res outs fr ts F).outs)))) (hf : Proofs.Tryz.prog.funcs[f]? = some fn) (hn : ((fn.name == "runtime.NumGoroutine") || !fn.body.isSome) = false := by kernel_rfl)
 (hok : zzp (cxo l c) (ctv ps res outs fr ts F) = fun _ => true := by kernel_rfl) (hr : (cur ts (runF (cxo l c) fn (ctv ps res outs fr ts F) (pick L)) : Fnc U ts (PT U (res ++ outs))) = F := by kernel_rfl) (hL : Ls (cxo l c) fn (ctv ps res outs fr ts F) (pick L) L := by exact trivial) (hX : ∀ p ∈ c.X, zwi Proofs.Tryz.prog p := by exact ze5) : zib K0 f (ctv ps res outs fr ts F) := by
 rw [Bool.or_eq_false_iff] at hn
 exact zib.ctx (C := cxo l c) (C' := K0) rfl rfl rfl (z84 (C := cxo l c) zzw (zafx (C := cxo l c) (C0 := K0) (l := l) rfl rfl rfl rfl) (zyp (l := c.X) rfl hX) hf hn.1 (by simpa using hn.2) (zaek rfl hL) (fun y => congrFun hok y) (zac2 hr))
theorem zae5 : zwi Proofs.Tryz.prog (263, 2) := zabu Proofs.Tryz.func263 (by kernel_rfl) (by kernel_rfl) (by kernel_rfl) (by kernel_rfl)
theorem zabi : zwi Proofs.Tryz.prog (268, 0) := z7w Proofs.Tryz.func268 (by kernel_rfl) (by kernel_rfl) (by kernel_rfl) (by kernel_rfl)
theorem zae4 : zwi Proofs.Tryz.prog (276, 1) := z7v Proofs.Tryz.func276 (by kernel_rfl) (by kernel_rfl) (by kernel_rfl) (by kernel_rfl)
end
end Go.Proofs.YtmifhmfokbigiaaGreatDoor.M
