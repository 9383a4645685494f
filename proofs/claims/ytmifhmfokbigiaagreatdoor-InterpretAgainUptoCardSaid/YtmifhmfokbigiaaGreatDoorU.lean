/- The program's types, and their cells. -/
import Derived.Test.YtmifhmfokbigiaaGreatDoorA4
import Derived.Test.YtmifhmfokbigiaaGreatDoorShelf
import Derived.KernelRfl
namespace Go.Proofs.YtmifhmfokbigiaaGreatDoor.M
open Go Go.Amx
set_option linter.unusedVariables false
set_option maxRecDepth 100000
noncomputable section
structure zV where
 x : Int
 y : Int
 signed : Bool
 code : Int
structure zS where
 msg : ByteArray
 addr : Int
structure DataType where
 Kind : Int
 Length : Int
 Scale : Int
structure Value where
 N : Int
 S : ByteArray
structure zF where
 Name : ByteArray
 Kind : Int
 zJ : DataType
 Value : Value
 Base : ByteArray
 Offset : Int
 Target : Int
structure zI where
 Op : Int
 Args : List Int
structure zN where
 From : Int
 To : Int
 Exception : Int
 Handler : Int
structure zB where
 zA : List zF
 zG : List zI
 zL : List zN
structure Storage where
 Bytes : ByteArray
 Tags : List Bool
structure zC where
 Storage : Storage
 At : Int
 Stack : List Int
 Lines : List ByteArray
 Status : Int
 Exception : Int
 Steps : Int
structure zP where
 Lines : List ByteArray
 Status : Int
 Exception : Int
 Steps : Int
structure zM where
 Part : Int
 Index : Int
structure Address where
 zU : Int
 Offset : Int
structure Pointer where
 Kind : Int
 Address : Address
 Authority : Int
structure Number where
 N : Int
 Scale : Int
structure zD where
 zB : zB
 zC : zC
 layout : List Int
 raised : Int
structure zT where
 Op : Int
 zJ : DataType
 Half : Bool
structure zH where
 e0 : Int
 e1 : Int
 e2 : Int
 e3 : Int
structure zO where
 below : Bool
 amount : zH
 division : zH
structure zK where
 Below : Bool
 zR : List Int
structure zQ where
 Top : zK
 zW : List Int
inductive Ty where
 | int (k : IntKind)
 | bool
 | str
 | nil
 | sl (t : Ty)
 | st (n : Nat)
@[reducible] def zabf : Nat → Type
 | 0 => zV
 | 1 => zS
 | 2 => DataType
 | 3 => Value
 | 4 => zF
 | 5 => zI
 | 6 => zN
 | 7 => zB
 | 8 => Storage
 | 9 => zC
 | 10 => zP
 | 11 => zM
 | 12 => Address
 | 13 => Pointer
 | 14 => Number
 | 15 => zD
 | 16 => zT
 | 17 => zH
 | 18 => zO
 | 19 => zK
 | 20 => zQ
 | _ + 21 => Unit
@[reducible] def den : Ty → Type
 | .int _ => Int
 | .bool => Bool
 | .str => ByteArray
 | .nil => Unit
 | .sl t => List (den t)
 | .st n => zabf n
def eqTy : (a b : Ty) → Option (PLift (a = b))
 | .int j, .int k => if h : j = k then some ⟨by rw [h]⟩ else none
 | .bool, .bool => some ⟨rfl⟩
 | .str, .str => some ⟨rfl⟩
 | .nil, .nil => some ⟨rfl⟩
 | .sl a, .sl b => match eqTy a b with
  | some ⟨h⟩ => some ⟨by rw [h]⟩
  | none => none
 | .st i, .st j => if h : i = j then some ⟨by rw [h]⟩ else none
 | _, _ => none
@[reducible] def U : Uni := { Ty := Ty, den := den, eqTy := eqTy }
@[reducible] def T6 : Ty := Ty.int .i64
def w6 (n : Int) : Int := IntKind.wrap .i64 n
@[reducible] def Ty.zV : Ty := .st 0
@[reducible] def Ty.zS : Ty := .st 1
@[reducible] def Ty.DataType : Ty := .st 2
@[reducible] def Ty.Value : Ty := .st 3
@[reducible] def Ty.zF : Ty := .st 4
@[reducible] def Ty.zI : Ty := .st 5
@[reducible] def Ty.zN : Ty := .st 6
@[reducible] def Ty.zB : Ty := .st 7
@[reducible] def Ty.Storage : Ty := .st 8
@[reducible] def Ty.zC : Ty := .st 9
@[reducible] def Ty.zP : Ty := .st 10
@[reducible] def Ty.zM : Ty := .st 11
@[reducible] def Ty.Address : Ty := .st 12
@[reducible] def Ty.Pointer : Ty := .st 13
@[reducible] def Ty.Number : Ty := .st 14
@[reducible] def Ty.zD : Ty := .st 15
@[reducible] def Ty.zT : Ty := .st 16
@[reducible] def Ty.zH : Ty := .st 17
@[reducible] def Ty.zO : Ty := .st 18
@[reducible] def Ty.zK : Ty := .st 19
@[reducible] def Ty.zQ : Ty := .st 20
def ze8 (k : IntKind) : List (AV U) → Option (Int × List (AV U))
 | .sc (.int k' n) :: l => if k = k' then some (n, l) else none
 | _ => none
def zy5 : List (AV U) → Option (Bool × List (AV U))
 | .sc (.bool b) :: l => some (b, l)
 | _ => none
def z1z : List (AV U) → Option (ByteArray × List (AV U))
 | .sc (.string s) :: l => some (s, l)
 | _ => none
def rNil : List (AV U) → Option (Unit × List (AV U))
 | .sc (.slice none 0 0) :: l => some ((), l)
 | _ => none
def rSl (t : Ty) : List (AV U) → Option (List (den t) × List (AV U))
 | .lst t' xs :: l => (U.eqTy t' t).map fun e => (zu7 e xs, l)
 | .sc (.slice none 0 0) :: l => some ([], l)
 | _ => none
def zob (l : List (AV U)) : Option (zV × List (AV U)) := (ze8 .i64 l).bind fun x0 => (ze8 .i64 x0.2).bind fun x1 => (zy5 x1.2).bind fun x2 => (ze8 .u8 x2.2).bind fun x3 => some (⟨x0.1, x1.1, x2.1, x3.1⟩, x3.2)
def zj8 (l : List (AV U)) : Option (zS × List (AV U)) := (z1z l).bind fun x0 => (ze8 .u64 x0.2).bind fun x1 => some (⟨x0.1, x1.1⟩, x1.2)
def zun (l : List (AV U)) : Option (DataType × List (AV U)) := (ze8 .i64 l).bind fun x0 => (ze8 .i64 x0.2).bind fun x1 => (ze8 .i64 x1.2).bind fun x2 => some (⟨x0.1, x1.1, x2.1⟩, x2.2)
def z5b (l : List (AV U)) : Option (Value × List (AV U)) := (ze8 .i64 l).bind fun x0 => (z1z x0.2).bind fun x1 => some (⟨x0.1, x1.1⟩, x1.2)
def zyv (l : List (AV U)) : Option (zF × List (AV U)) := (z1z l).bind fun x0 => (ze8 .i64 x0.2).bind fun x1 => (zun x1.2).bind fun x2 => (z5b x2.2).bind fun x3 => (z1z x3.2).bind fun x4 => (ze8 .i64 x4.2).bind fun x5 => (ze8 .i64 x5.2).bind fun x6 => some (⟨x0.1, x1.1, x2.1, x3.1, x4.1, x5.1, x6.1⟩, x6.2)
def ztd (l : List (AV U)) : Option (zI × List (AV U)) := (ze8 .i64 l).bind fun x0 => (rSl (Ty.int .i64) x0.2).bind fun x1 => some (⟨x0.1, x1.1⟩, x1.2)
def zyz (l : List (AV U)) : Option (zN × List (AV U)) := (ze8 .i64 l).bind fun x0 => (ze8 .i64 x0.2).bind fun x1 => (ze8 .i64 x1.2).bind fun x2 => (ze8 .i64 x2.2).bind fun x3 => some (⟨x0.1, x1.1, x2.1, x3.1⟩, x3.2)
def zvp (l : List (AV U)) : Option (zB × List (AV U)) := (rSl Ty.zF l).bind fun x0 => (rSl Ty.zI x0.2).bind fun x1 => (rSl Ty.zN x1.2).bind fun x2 => some (⟨x0.1, x1.1, x2.1⟩, x2.2)
def zys (l : List (AV U)) : Option (Storage × List (AV U)) := (z1z l).bind fun x0 => (rSl Ty.bool x0.2).bind fun x1 => some (⟨x0.1, x1.1⟩, x1.2)
def zyt (l : List (AV U)) : Option (zC × List (AV U)) := (zys l).bind fun x0 => (ze8 .i64 x0.2).bind fun x1 => (rSl (Ty.int .i64) x1.2).bind fun x2 => (rSl Ty.str x2.2).bind fun x3 => (ze8 .i64 x3.2).bind fun x4 => (ze8 .i64 x4.2).bind fun x5 => (ze8 .i64 x5.2).bind fun x6 => some (⟨x0.1, x1.1, x2.1, x3.1, x4.1, x5.1, x6.1⟩, x6.2)
def z13 (l : List (AV U)) : Option (zP × List (AV U)) := (rSl Ty.str l).bind fun x0 => (ze8 .i64 x0.2).bind fun x1 => (ze8 .i64 x1.2).bind fun x2 => (ze8 .i64 x2.2).bind fun x3 => some (⟨x0.1, x1.1, x2.1, x3.1⟩, x3.2)
def z4h (l : List (AV U)) : Option (zM × List (AV U)) := (ze8 .i64 l).bind fun x0 => (ze8 .i64 x0.2).bind fun x1 => some (⟨x0.1, x1.1⟩, x1.2)
def zy6 (l : List (AV U)) : Option (Address × List (AV U)) := (ze8 .i64 l).bind fun x0 => (ze8 .i64 x0.2).bind fun x1 => some (⟨x0.1, x1.1⟩, x1.2)
def z4g (l : List (AV U)) : Option (Pointer × List (AV U)) := (ze8 .i64 l).bind fun x0 => (zy6 x0.2).bind fun x1 => (ze8 .i64 x1.2).bind fun x2 => some (⟨x0.1, x1.1, x2.1⟩, x2.2)
def z6l (l : List (AV U)) : Option (Number × List (AV U)) := (ze8 .i64 l).bind fun x0 => (ze8 .i64 x0.2).bind fun x1 => some (⟨x0.1, x1.1⟩, x1.2)
def zpd (l : List (AV U)) : Option (zD × List (AV U)) := (zvp l).bind fun x0 => (zyt x0.2).bind fun x1 => (rSl (Ty.int .i64) x1.2).bind fun x2 => (ze8 .i64 x2.2).bind fun x3 => some (⟨x0.1, x1.1, x2.1, x3.1⟩, x3.2)
def zs3 (l : List (AV U)) : Option (zT × List (AV U)) := (ze8 .i64 l).bind fun x0 => (zun x0.2).bind fun x1 => (zy5 x1.2).bind fun x2 => some (⟨x0.1, x1.1, x2.1⟩, x2.2)
def zx2 (l : List (AV U)) : Option (zH × List (AV U)) := (ze8 .u64 l).bind fun x0 => (ze8 .u64 x0.2).bind fun x1 => (ze8 .u64 x1.2).bind fun x2 => (ze8 .u64 x2.2).bind fun x3 => some (⟨x0.1, x1.1, x2.1, x3.1⟩, x3.2)
def zqb (l : List (AV U)) : Option (zO × List (AV U)) := (zy5 l).bind fun x0 => (zx2 x0.2).bind fun x1 => (zx2 x1.2).bind fun x2 => some (⟨x0.1, x1.1, x2.1⟩, x2.2)
def ztw (l : List (AV U)) : Option (zK × List (AV U)) := (zy5 l).bind fun x0 => (rSl (Ty.int .i64) x0.2).bind fun x1 => some (⟨x0.1, x1.1⟩, x1.2)
def zrx (l : List (AV U)) : Option (zQ × List (AV U)) := (ztw l).bind fun x0 => (rSl (Ty.int .i64) x0.2).bind fun x1 => some (⟨x0.1, x1.1⟩, x1.2)
def zsn (x : zV) : List (AV U) := [.sc (.int .i64 x.x), .sc (.int .i64 x.y), .sc (.bool x.signed), .sc (.int .u8 x.code)]
def zoa (x : zS) : List (AV U) := [.sc (.string x.msg), .sc (.int .u64 x.addr)]
def z74 (x : DataType) : List (AV U) := [.sc (.int .i64 x.Kind), .sc (.int .i64 x.Length), .sc (.int .i64 x.Scale)]
def zac1 (x : Value) : List (AV U) := [.sc (.int .i64 x.N), .sc (.string x.S)]
def z5v (x : zF) : List (AV U) := [.sc (.string x.Name), .sc (.int .i64 x.Kind), .sc (.int .i64 x.zJ.Kind), .sc (.int .i64 x.zJ.Length), .sc (.int .i64 x.zJ.Scale), .sc (.int .i64 x.Value.N), .sc (.string x.Value.S), .sc (.string x.Base), .sc (.int .i64 x.Offset), .sc (.int .i64 x.Target)]
def zqa (x : zI) : List (AV U) := [.sc (.int .i64 x.Op), .lst (Ty.int .i64) x.Args]
def z5w (x : zN) : List (AV U) := [.sc (.int .i64 x.From), .sc (.int .i64 x.To), .sc (.int .i64 x.Exception), .sc (.int .i64 x.Handler)]
def zmr (x : zB) : List (AV U) := [.lst Ty.zF x.zA, .lst Ty.zI x.zG, .lst Ty.zN x.zL]
def z9u (x : Storage) : List (AV U) := [.sc (.string x.Bytes), .lst Ty.bool x.Tags]
def z9w (x : zC) : List (AV U) := [.sc (.string x.Storage.Bytes), .lst Ty.bool x.Storage.Tags, .sc (.int .i64 x.At), .lst (Ty.int .i64) x.Stack, .lst Ty.str x.Lines, .sc (.int .i64 x.Status), .sc (.int .i64 x.Exception), .sc (.int .i64 x.Steps)]
def z73 (x : zP) : List (AV U) := [.lst Ty.str x.Lines, .sc (.int .i64 x.Status), .sc (.int .i64 x.Exception), .sc (.int .i64 x.Steps)]
def z9x (x : zM) : List (AV U) := [.sc (.int .i64 x.Part), .sc (.int .i64 x.Index)]
def z9y (x : Address) : List (AV U) := [.sc (.int .i64 x.zU), .sc (.int .i64 x.Offset)]
def z9v (x : Pointer) : List (AV U) := [.sc (.int .i64 x.Kind), .sc (.int .i64 x.Address.zU), .sc (.int .i64 x.Address.Offset), .sc (.int .i64 x.Authority)]
def zaa2 (x : Number) : List (AV U) := [.sc (.int .i64 x.N), .sc (.int .i64 x.Scale)]
def zu6 (x : zD) : List (AV U) := [.lst Ty.zF x.zB.zA, .lst Ty.zI x.zB.zG, .lst Ty.zN x.zB.zL, .sc (.string x.zC.Storage.Bytes), .lst Ty.bool x.zC.Storage.Tags, .sc (.int .i64 x.zC.At), .lst (Ty.int .i64) x.zC.Stack, .lst Ty.str x.zC.Lines, .sc (.int .i64 x.zC.Status), .sc (.int .i64 x.zC.Exception), .sc (.int .i64 x.zC.Steps), .lst (Ty.int .i64) x.layout, .sc (.int .i64 x.raised)]
def zyd (x : zT) : List (AV U) := [.sc (.int .i64 x.Op), .sc (.int .i64 x.zJ.Kind), .sc (.int .i64 x.zJ.Length), .sc (.int .i64 x.zJ.Scale), .sc (.bool x.Half)]
def zaa3 (x : zH) : List (AV U) := [.sc (.int .u64 x.e0), .sc (.int .u64 x.e1), .sc (.int .u64 x.e2), .sc (.int .u64 x.e3)]
def zvf (x : zO) : List (AV U) := [.sc (.bool x.below), .sc (.int .u64 x.amount.e0), .sc (.int .u64 x.amount.e1), .sc (.int .u64 x.amount.e2), .sc (.int .u64 x.amount.e3), .sc (.int .u64 x.division.e0), .sc (.int .u64 x.division.e1), .sc (.int .u64 x.division.e2), .sc (.int .u64 x.division.e3)]
def z33 (x : zK) : List (AV U) := [.sc (.bool x.Below), .lst (Ty.int .i64) x.zR]
def zw7 (x : zQ) : List (AV U) := [.sc (.bool x.Top.Below), .lst (Ty.int .i64) x.Top.zR, .lst (Ty.int .i64) x.zW]
def zah7 : (n : Nat) → zabf n → List (AV U)
 | 0, x => zsn x
 | 1, x => zoa x
 | 2, x => z74 x
 | 3, x => zac1 x
 | 4, x => z5v x
 | 5, x => zqa x
 | 6, x => z5w x
 | 7, x => zmr x
 | 8, x => z9u x
 | 9, x => z9w x
 | 10, x => z73 x
 | 11, x => z9x x
 | 12, x => z9y x
 | 13, x => z9v x
 | 14, x => zaa2 x
 | 15, x => zu6 x
 | 16, x => zyd x
 | 17, x => zaa3 x
 | 18, x => zvf x
 | 19, x => z33 x
 | 20, x => zw7 x
 | _ + 21, _ => [.sc (.bool true)]
def rdSt : (n : Nat) → List (AV U) → Option (zabf n × List (AV U))
 | 0, l => zob l
 | 1, l => zj8 l
 | 2, l => zun l
 | 3, l => z5b l
 | 4, l => zyv l
 | 5, l => ztd l
 | 6, l => zyz l
 | 7, l => zvp l
 | 8, l => zys l
 | 9, l => zyt l
 | 10, l => z13 l
 | 11, l => z4h l
 | 12, l => zy6 l
 | 13, l => z4g l
 | 14, l => z6l l
 | 15, l => zpd l
 | 16, l => zs3 l
 | 17, l => zx2 l
 | 18, l => zqb l
 | 19, l => ztw l
 | 20, l => zrx l
 | _ + 21, _ => none
def enc : (t : Ty) → den t → List (AV U)
 | .int k, n => [.sc (.int k n)]
 | .bool, b => [.sc (.bool b)]
 | .str, s => [.sc (.string s)]
 | .nil, _ => [.sc (.slice none 0 0)]
 | .sl t, xs => [.lst t xs]
 | .st n, x => zah7 n x
def rd : (t : Ty) → List (AV U) → Option (den t × List (AV U))
 | .int k, l => ze8 k l
 | .bool, l => zy5 l
 | .str, l => z1z l
 | .nil, l => rNil l
 | .sl t, l => rSl t l
 | .st n, l => rdSt n l
def reify (t : Ty) (l : List (AV U)) : Option (den t) := (rd t l).bind fun r => match r.2 with
 | [] => some r.1
 | _ => none
def szSt : Nat → Nat
 | 0 => 4
 | 1 => 2
 | 2 => 3
 | 3 => 2
 | 4 => 10
 | 5 => 2
 | 6 => 4
 | 7 => 3
 | 8 => 2
 | 9 => 8
 | 10 => 4
 | 11 => 2
 | 12 => 2
 | 13 => 4
 | 14 => 2
 | 15 => 13
 | 16 => 5
 | 17 => 4
 | 18 => 9
 | 19 => 2
 | 20 => 3
 | _ + 21 => 1
def zag5 : Nat → Bool
 | 0 => true
 | 1 => true
 | 2 => true
 | 3 => true
 | 4 => true
 | 5 => false
 | 6 => true
 | 7 => false
 | 8 => false
 | 9 => false
 | 10 => false
 | 11 => true
 | 12 => true
 | 13 => true
 | 14 => true
 | 15 => false
 | 16 => true
 | 17 => true
 | 18 => true
 | 19 => false
 | 20 => false
 | _ + 21 => true
def szT : Ty → Nat
 | .st n => szSt n
 | _ => 1
def aggT : Ty → Bool
 | .st _ => true
 | _ => false
def zaeu : Ty → Bool
 | .sl _ => false
 | .st n => zag5 n
 | _ => true
def zaes : List (Nat × Ty) := [(2, (Ty.int .i64)), (3, (Ty.int .i64)), (4, Ty.bool), (5, (Ty.int .u8)), (6, (Ty.int .u8)), (8, Ty.zV), (9, Ty.str), (10, Ty.str), (11, Ty.str), (12, (Ty.int .u64)), (14, Ty.zS), (21, (Ty.int .i32)), (22, (Ty.sl Ty.zF)), (23, (Ty.sl Ty.zI)), (24, (Ty.sl Ty.zN)), (26, Ty.zB), (29, (Ty.sl Ty.zC)), (30, (Ty.int .i64)), (38, (Ty.sl Ty.bool)), (40, Ty.Storage), (41, (Ty.sl (Ty.int .i64))), (42, (Ty.sl Ty.str)), (44, Ty.zC), (47, Ty.zI), (65, Ty.zP), (77, Ty.DataType), (79, Ty.Value), (81, Ty.zF), (89, Ty.zM), (94, Ty.zN), (110, Ty.Address), (112, Ty.Pointer), (132, Ty.Number), (136, (Ty.sl (Ty.int .i64))), (163, Ty.zD), (179, (Ty.sl (Ty.int .u8))), (210, Ty.zT), (227, (Ty.int .u64)), (249, (Ty.int .u64)), (250, Ty.zH), (251, Ty.zH), (253, Ty.zO), (257, Ty.zK), (259, Ty.zQ), (271, (Ty.int .u32)), (294, (Ty.int .i8)), (309, (Ty.sl (Ty.sl (Ty.int .u8)))), (322, (Ty.int .u8)), (323, (Ty.int .u8)), (325, (Ty.int .i32)), (326, (Ty.int .i32))]
def En : Enc U := { sz := szT, agg := aggT, flat := zaeu, enc := enc, reify := reify, ofGo := pick zaes, sl := Ty.sl, toSl := fun _ xs => xs, ofSl := fun _ xs => xs, u8 := .int .u8, ofInts := fun l => l, toInts := fun l => l }
def zw6 : List (List Int) := [[0, 4], [2, 3], [2, 3, 3], [2, 3, 3], [2, 3, 3], [2, 3, 3], [2, 3, 3], [1, 4, 6], [1, 4, 6], [6], [5, 0], [5, 5], [5, 3], [6], [], [3], [2], [1], []]
def zaet : List Int := [1, 10, 100, 1000, 10000, 100000, 1000000, 10000000, 100000000, 1000000000, 10000000000, 100000000000, 1000000000000, 10000000000000, 100000000000000, 1000000000000000, 10000000000000000, 100000000000000000, 1000000000000000000, 10000000000000000000]
def zah4 : List Int := [0, 1, 28, 2, 29, 14, 24, 3, 30, 22, 20, 15, 25, 17, 4, 8, 31, 27, 13, 23, 21, 19, 16, 7, 26, 12, 18, 6, 11, 5, 10, 9]
def zah3 : List Int := [0, 1, 56, 2, 57, 49, 28, 3, 61, 58, 42, 50, 38, 29, 17, 4, 62, 47, 59, 36, 45, 43, 51, 22, 53, 39, 33, 30, 24, 18, 12, 5, 63, 55, 48, 27, 60, 41, 37, 16, 46, 35, 44, 21, 52, 32, 23, 11, 54, 26, 40, 15, 34, 20, 31, 10, 25, 14, 19, 9, 13, 8, 7, 6]
def globs : List (Nat × AV U) := [(0, .rarr (Ty.sl (Ty.int .i64)) zw6), (2, .rarr (Ty.int .u64) zaet), (3, .rarr (Ty.int .u8) zah4), (4, .rarr (Ty.int .u8) zah3)]
def zzw (O : List (Nat × Ct U)) (X : List (Nat × Nat)) (J : List (Nat × Amx.Spec U × List Ty)) (pre : List (Nat × List Nat)) (lits ro pk bj : List Nat) : Ctx U :=
 { P := Proofs.Tryz.prog, En := En, G := pick globs, O := pick O, X := pick X, joins := pick J, pre := fun r => (pick pre r).getD [], lits := lits, ro := ro, pk := pk, bj := bj }
theorem zcv (k : IntKind) : Sp (U := U) (ze8 k) (fun n : Int => [.sc (.int k n)]) := fun l x r h => by
 unfold ze8 at h
 split at h
 · split at h
   · rename_i e; cases h; subst e; exact ⟨[_], rfl, F2.refl_ref _⟩
   · cases h
 · cases h
theorem zx1 : Sp (U := U) zy5 (fun b : Bool => [.sc (.bool b)]) := fun l x r h => by
 unfold zy5 at h
 split at h
 · cases h; exact ⟨[_], rfl, F2.refl_ref _⟩
 · cases h
theorem zx0 : Sp (U := U) z1z (fun s : ByteArray => [.sc (.string s)]) := fun l x r h => by
 unfold z1z at h
 split at h
 · cases h; exact ⟨[_], rfl, F2.refl_ref _⟩
 · cases h
theorem zagi : Sp (U := U) rNil (fun _ : Unit => [.sc (.slice none 0 0)]) := fun l x r h => by
 unfold rNil at h
 split at h
 · cases h; exact ⟨[_], rfl, F2.refl_ref _⟩
 · cases h
theorem zqh (t : Ty) : Sp (U := U) (rSl t) (fun xs : List (den t) => [.lst t xs]) := fun l x r h => by
 unfold rSl at h
 split at h
 · rw [Option.map_eq_some_iff] at h; obtain ⟨⟨e⟩, _, h2⟩ := h; cases e; cases h2; exact ⟨[_], rfl, F2.refl_ref _⟩
 · cases h; exact ⟨[_], rfl, .cons (.inr ⟨rfl, _, rfl⟩) .nil⟩
 · cases h
theorem zxh : Sp (U := U) zob zsn := fun l x r h => by
 unfold zob at h
 obtain ⟨x0, r0, p0, e0, f0, h⟩ := (zcv .i64).step h
 obtain ⟨x1, r1, p1, (e1 : r0 = p1 ++ r1), f1, h⟩ := (zcv .i64).step h
 obtain ⟨x2, r2, p2, (e2 : r1 = p2 ++ r2), f2, h⟩ := zx1.step h
 obtain ⟨x3, r3, p3, (e3 : r2 = p3 ++ r3), f3, h⟩ := (zcv .u8).step h
 cases h
 exact ⟨(p0 ++ (p1 ++ (p2 ++ p3))), by rw [e0, e1, e2, e3]; simp only [List.append_assoc], (f0.append (f1.append (f2.append f3)))⟩
theorem zsr : Sp (U := U) zj8 zoa := fun l x r h => by
 unfold zj8 at h
 obtain ⟨x0, r0, p0, e0, f0, h⟩ := zx0.step h
 obtain ⟨x1, r1, p1, (e1 : r0 = p1 ++ r1), f1, h⟩ := (zcv .u64).step h
 cases h
 exact ⟨(p0 ++ p1), by rw [e0, e1]; simp only [List.append_assoc], (f0.append f1)⟩
theorem zxi : Sp (U := U) zun z74 := fun l x r h => by
 unfold zun at h
 obtain ⟨x0, r0, p0, e0, f0, h⟩ := (zcv .i64).step h
 obtain ⟨x1, r1, p1, (e1 : r0 = p1 ++ r1), f1, h⟩ := (zcv .i64).step h
 obtain ⟨x2, r2, p2, (e2 : r1 = p2 ++ r2), f2, h⟩ := (zcv .i64).step h
 cases h
 exact ⟨(p0 ++ (p1 ++ p2)), by rw [e0, e1, e2]; simp only [List.append_assoc], (f0.append (f1.append f2))⟩
theorem z8n : Sp (U := U) z5b zac1 := fun l x r h => by
 unfold z5b at h
 obtain ⟨x0, r0, p0, e0, f0, h⟩ := (zcv .i64).step h
 obtain ⟨x1, r1, p1, (e1 : r0 = p1 ++ r1), f1, h⟩ := zx0.step h
 cases h
 exact ⟨(p0 ++ p1), by rw [e0, e1]; simp only [List.append_assoc], (f0.append f1)⟩
theorem z8o : Sp (U := U) zyv z5v := fun l x r h => by
 unfold zyv at h
 obtain ⟨x0, r0, p0, e0, f0, h⟩ := zx0.step h
 obtain ⟨x1, r1, p1, (e1 : r0 = p1 ++ r1), f1, h⟩ := (zcv .i64).step h
 obtain ⟨x2, r2, p2, (e2 : r1 = p2 ++ r2), f2, h⟩ := zxi.step h
 obtain ⟨x3, r3, p3, (e3 : r2 = p3 ++ r3), f3, h⟩ := z8n.step h
 obtain ⟨x4, r4, p4, (e4 : r3 = p4 ++ r4), f4, h⟩ := zx0.step h
 obtain ⟨x5, r5, p5, (e5 : r4 = p5 ++ r5), f5, h⟩ := (zcv .i64).step h
 obtain ⟨x6, r6, p6, (e6 : r5 = p6 ++ r6), f6, h⟩ := (zcv .i64).step h
 cases h
 exact ⟨(p0 ++ (p1 ++ (p2 ++ (p3 ++ (p4 ++ (p5 ++ p6)))))), by rw [e0, e1, e2, e3, e4, e5, e6]; simp only [List.append_assoc], (f0.append (f1.append (f2.append (f3.append (f4.append (f5.append f6))))))⟩
theorem z39 : Sp (U := U) ztd zqa := fun l x r h => by
 unfold ztd at h
 obtain ⟨x0, r0, p0, e0, f0, h⟩ := (zcv .i64).step h
 obtain ⟨x1, r1, p1, (e1 : r0 = p1 ++ r1), f1, h⟩ := (zqh (Ty.int .i64)).step h
 cases h
 exact ⟨(p0 ++ p1), by rw [e0, e1]; simp only [List.append_assoc], (f0.append f1)⟩
theorem z8p : Sp (U := U) zyz z5w := fun l x r h => by
 unfold zyz at h
 obtain ⟨x0, r0, p0, e0, f0, h⟩ := (zcv .i64).step h
 obtain ⟨x1, r1, p1, (e1 : r0 = p1 ++ r1), f1, h⟩ := (zcv .i64).step h
 obtain ⟨x2, r2, p2, (e2 : r1 = p2 ++ r2), f2, h⟩ := (zcv .i64).step h
 obtain ⟨x3, r3, p3, (e3 : r2 = p3 ++ r3), f3, h⟩ := (zcv .i64).step h
 cases h
 exact ⟨(p0 ++ (p1 ++ (p2 ++ p3))), by rw [e0, e1, e2, e3]; simp only [List.append_assoc], (f0.append (f1.append (f2.append f3)))⟩
theorem z1g : Sp (U := U) zvp zmr := fun l x r h => by
 unfold zvp at h
 obtain ⟨x0, r0, p0, e0, f0, h⟩ := (zqh Ty.zF).step h
 obtain ⟨x1, r1, p1, (e1 : r0 = p1 ++ r1), f1, h⟩ := (zqh Ty.zI).step h
 obtain ⟨x2, r2, p2, (e2 : r1 = p2 ++ r2), f2, h⟩ := (zqh Ty.zN).step h
 cases h
 exact ⟨(p0 ++ (p1 ++ p2)), by rw [e0, e1, e2]; simp only [List.append_assoc], (f0.append (f1.append f2))⟩
theorem z44 : Sp (U := U) zys z9u := fun l x r h => by
 unfold zys at h
 obtain ⟨x0, r0, p0, e0, f0, h⟩ := zx0.step h
 obtain ⟨x1, r1, p1, (e1 : r0 = p1 ++ r1), f1, h⟩ := (zqh Ty.bool).step h
 cases h
 exact ⟨(p0 ++ p1), by rw [e0, e1]; simp only [List.append_assoc], (f0.append f1)⟩
theorem z45 : Sp (U := U) zyt z9w := fun l x r h => by
 unfold zyt at h
 obtain ⟨x0, r0, p0, e0, f0, h⟩ := z44.step h
 obtain ⟨x1, r1, p1, (e1 : r0 = p1 ++ r1), f1, h⟩ := (zcv .i64).step h
 obtain ⟨x2, r2, p2, (e2 : r1 = p2 ++ r2), f2, h⟩ := (zqh (Ty.int .i64)).step h
 obtain ⟨x3, r3, p3, (e3 : r2 = p3 ++ r3), f3, h⟩ := (zqh Ty.str).step h
 obtain ⟨x4, r4, p4, (e4 : r3 = p4 ++ r4), f4, h⟩ := (zcv .i64).step h
 obtain ⟨x5, r5, p5, (e5 : r4 = p5 ++ r5), f5, h⟩ := (zcv .i64).step h
 obtain ⟨x6, r6, p6, (e6 : r5 = p6 ++ r6), f6, h⟩ := (zcv .i64).step h
 cases h
 exact ⟨(p0 ++ (p1 ++ (p2 ++ (p3 ++ (p4 ++ (p5 ++ p6)))))), by rw [e0, e1, e2, e3, e4, e5, e6]; simp only [List.append_assoc], (f0.append (f1.append (f2.append (f3.append (f4.append (f5.append f6))))))⟩
theorem zaaa : Sp (U := U) z13 z73 := fun l x r h => by
 unfold z13 at h
 obtain ⟨x0, r0, p0, e0, f0, h⟩ := (zqh Ty.str).step h
 obtain ⟨x1, r1, p1, (e1 : r0 = p1 ++ r1), f1, h⟩ := (zcv .i64).step h
 obtain ⟨x2, r2, p2, (e2 : r1 = p2 ++ r2), f2, h⟩ := (zcv .i64).step h
 obtain ⟨x3, r3, p3, (e3 : r2 = p3 ++ r3), f3, h⟩ := (zcv .i64).step h
 cases h
 exact ⟨(p0 ++ (p1 ++ (p2 ++ p3))), by rw [e0, e1, e2, e3]; simp only [List.append_assoc], (f0.append (f1.append (f2.append f3)))⟩
theorem zabh : Sp (U := U) z4h z9x := fun l x r h => by
 unfold z4h at h
 obtain ⟨x0, r0, p0, e0, f0, h⟩ := (zcv .i64).step h
 obtain ⟨x1, r1, p1, (e1 : r0 = p1 ++ r1), f1, h⟩ := (zcv .i64).step h
 cases h
 exact ⟨(p0 ++ p1), by rw [e0, e1]; simp only [List.append_assoc], (f0.append f1)⟩
theorem z47 : Sp (U := U) zy6 z9y := fun l x r h => by
 unfold zy6 at h
 obtain ⟨x0, r0, p0, e0, f0, h⟩ := (zcv .i64).step h
 obtain ⟨x1, r1, p1, (e1 : r0 = p1 ++ r1), f1, h⟩ := (zcv .i64).step h
 cases h
 exact ⟨(p0 ++ p1), by rw [e0, e1]; simp only [List.append_assoc], (f0.append f1)⟩
theorem zabg : Sp (U := U) z4g z9v := fun l x r h => by
 unfold z4g at h
 obtain ⟨x0, r0, p0, e0, f0, h⟩ := (zcv .i64).step h
 obtain ⟨x1, r1, p1, (e1 : r0 = p1 ++ r1), f1, h⟩ := z47.step h
 obtain ⟨x2, r2, p2, (e2 : r1 = p2 ++ r2), f2, h⟩ := (zcv .i64).step h
 cases h
 exact ⟨(p0 ++ (p1 ++ p2)), by rw [e0, e1, e2]; simp only [List.append_assoc], (f0.append (f1.append f2))⟩
theorem zab8 : Sp (U := U) z6l zaa2 := fun l x r h => by
 unfold z6l at h
 obtain ⟨x0, r0, p0, e0, f0, h⟩ := (zcv .i64).step h
 obtain ⟨x1, r1, p1, (e1 : r0 = p1 ++ r1), f1, h⟩ := (zcv .i64).step h
 cases h
 exact ⟨(p0 ++ p1), by rw [e0, e1]; simp only [List.append_assoc], (f0.append f1)⟩
theorem zyq : Sp (U := U) zpd zu6 := fun l x r h => by
 unfold zpd at h
 obtain ⟨x0, r0, p0, e0, f0, h⟩ := z1g.step h
 obtain ⟨x1, r1, p1, (e1 : r0 = p1 ++ r1), f1, h⟩ := z45.step h
 obtain ⟨x2, r2, p2, (e2 : r1 = p2 ++ r2), f2, h⟩ := (zqh (Ty.int .i64)).step h
 obtain ⟨x3, r3, p3, (e3 : r2 = p3 ++ r3), f3, h⟩ := (zcv .i64).step h
 cases h
 exact ⟨(p0 ++ (p1 ++ (p2 ++ p3))), by rw [e0, e1, e2, e3]; simp only [List.append_assoc], (f0.append (f1.append (f2.append f3)))⟩
theorem z36 : Sp (U := U) zs3 zyd := fun l x r h => by
 unfold zs3 at h
 obtain ⟨x0, r0, p0, e0, f0, h⟩ := (zcv .i64).step h
 obtain ⟨x1, r1, p1, (e1 : r0 = p1 ++ r1), f1, h⟩ := zxi.step h
 obtain ⟨x2, r2, p2, (e2 : r1 = p2 ++ r2), f2, h⟩ := zx1.step h
 cases h
 exact ⟨(p0 ++ (p1 ++ p2)), by rw [e0, e1, e2]; simp only [List.append_assoc], (f0.append (f1.append f2))⟩
theorem z1h : Sp (U := U) zx2 zaa3 := fun l x r h => by
 unfold zx2 at h
 obtain ⟨x0, r0, p0, e0, f0, h⟩ := (zcv .u64).step h
 obtain ⟨x1, r1, p1, (e1 : r0 = p1 ++ r1), f1, h⟩ := (zcv .u64).step h
 obtain ⟨x2, r2, p2, (e2 : r1 = p2 ++ r2), f2, h⟩ := (zcv .u64).step h
 obtain ⟨x3, r3, p3, (e3 : r2 = p3 ++ r3), f3, h⟩ := (zcv .u64).step h
 cases h
 exact ⟨(p0 ++ (p1 ++ (p2 ++ p3))), by rw [e0, e1, e2, e3]; simp only [List.append_assoc], (f0.append (f1.append (f2.append f3)))⟩
theorem z05 : Sp (U := U) zqb zvf := fun l x r h => by
 unfold zqb at h
 obtain ⟨x0, r0, p0, e0, f0, h⟩ := zx1.step h
 obtain ⟨x1, r1, p1, (e1 : r0 = p1 ++ r1), f1, h⟩ := z1h.step h
 obtain ⟨x2, r2, p2, (e2 : r1 = p2 ++ r2), f2, h⟩ := z1h.step h
 cases h
 exact ⟨(p0 ++ (p1 ++ p2)), by rw [e0, e1, e2]; simp only [List.append_assoc], (f0.append (f1.append f2))⟩
theorem z0x : Sp (U := U) ztw z33 := fun l x r h => by
 unfold ztw at h
 obtain ⟨x0, r0, p0, e0, f0, h⟩ := zx1.step h
 obtain ⟨x1, r1, p1, (e1 : r0 = p1 ++ r1), f1, h⟩ := (zqh (Ty.int .i64)).step h
 cases h
 exact ⟨(p0 ++ p1), by rw [e0, e1]; simp only [List.append_assoc], (f0.append f1)⟩
theorem z3t : Sp (U := U) zrx zw7 := fun l x r h => by
 unfold zrx at h
 obtain ⟨x0, r0, p0, e0, f0, h⟩ := z0x.step h
 obtain ⟨x1, r1, p1, (e1 : r0 = p1 ++ r1), f1, h⟩ := (zqh (Ty.int .i64)).step h
 cases h
 exact ⟨(p0 ++ p1), by rw [e0, e1]; simp only [List.append_assoc], (f0.append f1)⟩
theorem sp : ∀ t : Ty, Sp (U := U) (rd t) (enc t)
 | .int k => zcv k
 | .bool => zx1
 | .str => zx0
 | .nil => zagi
 | .sl t => zqh t
 | .st 0 => zxh
 | .st 1 => zsr
 | .st 2 => zxi
 | .st 3 => z8n
 | .st 4 => z8o
 | .st 5 => z39
 | .st 6 => z8p
 | .st 7 => z1g
 | .st 8 => z44
 | .st 9 => z45
 | .st 10 => zaaa
 | .st 11 => zabh
 | .st 12 => z47
 | .st 13 => zabg
 | .st 14 => zab8
 | .st 15 => zyq
 | .st 16 => z36
 | .st 17 => z1h
 | .st 18 => z05
 | .st 19 => z0x
 | .st 20 => z3t
 | .st (_ + 21) => fun l x r h => by cases h
theorem zaeq : ∀ (t : Ty) (x : den t), (enc t x).length = szT t
 | .int _, _ => rfl
 | .bool, _ => rfl
 | .str, _ => rfl
 | .nil, _ => rfl
 | .sl _, _ => rfl
 | .st 0, _ => rfl
 | .st 1, _ => rfl
 | .st 2, _ => rfl
 | .st 3, _ => rfl
 | .st 4, _ => rfl
 | .st 5, _ => rfl
 | .st 6, _ => rfl
 | .st 7, _ => rfl
 | .st 8, _ => rfl
 | .st 9, _ => rfl
 | .st 10, _ => rfl
 | .st 11, _ => rfl
 | .st 12, _ => rfl
 | .st 13, _ => rfl
 | .st 14, _ => rfl
 | .st 15, _ => rfl
 | .st 16, _ => rfl
 | .st 17, _ => rfl
 | .st 18, _ => rfl
 | .st 19, _ => rfl
 | .st 20, _ => rfl
 | .st (_ + 21), _ => rfl
theorem zagm : ∀ t : Ty, 0 < szT t
 | .int _ => Nat.one_pos
 | .bool => Nat.one_pos
 | .str => Nat.one_pos
 | .nil => Nat.one_pos
 | .sl _ => Nat.one_pos
 | .st 0 => (by decide : 0 < 4)
 | .st 1 => (by decide : 0 < 2)
 | .st 2 => (by decide : 0 < 3)
 | .st 3 => (by decide : 0 < 2)
 | .st 4 => (by decide : 0 < 10)
 | .st 5 => (by decide : 0 < 2)
 | .st 6 => (by decide : 0 < 4)
 | .st 7 => (by decide : 0 < 3)
 | .st 8 => (by decide : 0 < 2)
 | .st 9 => (by decide : 0 < 8)
 | .st 10 => (by decide : 0 < 4)
 | .st 11 => (by decide : 0 < 2)
 | .st 12 => (by decide : 0 < 2)
 | .st 13 => (by decide : 0 < 4)
 | .st 14 => (by decide : 0 < 2)
 | .st 15 => (by decide : 0 < 13)
 | .st 16 => (by decide : 0 < 5)
 | .st 17 => (by decide : 0 < 4)
 | .st 18 => (by decide : 0 < 9)
 | .st 19 => (by decide : 0 < 2)
 | .st 20 => (by decide : 0 < 3)
 | .st (_ + 21) => Nat.one_pos
theorem zah5 : ∀ (t : Ty) (x : den t), (enc t x).all (fzc (U := U)) = true
 | .int _, _ => rfl
 | .bool, _ => rfl
 | .str, _ => rfl
 | .nil, _ => rfl
 | .sl _, _ => rfl
 | .st 0, _ => rfl
 | .st 1, _ => rfl
 | .st 2, _ => rfl
 | .st 3, _ => rfl
 | .st 4, _ => rfl
 | .st 5, _ => rfl
 | .st 6, _ => rfl
 | .st 7, _ => rfl
 | .st 8, _ => rfl
 | .st 9, _ => rfl
 | .st 10, _ => rfl
 | .st 11, _ => rfl
 | .st 12, _ => rfl
 | .st 13, _ => rfl
 | .st 14, _ => rfl
 | .st 15, _ => rfl
 | .st 16, _ => rfl
 | .st 17, _ => rfl
 | .st 18, _ => rfl
 | .st 19, _ => rfl
 | .st 20, _ => rfl
 | .st (_ + 21), _ => rfl
theorem zafm : ∀ t : Ty, zaeu t = true → ∀ x : den t, (enc t x).all (z18 (U := U)) = true
 | .int _, _, _ => rfl
 | .bool, _, _ => rfl
 | .str, _, _ => rfl
 | .nil, _, _ => rfl
 | .sl _, h, _ => by cases h
 | .st 0, _, _ => rfl
 | .st 1, _, _ => rfl
 | .st 2, _, _ => rfl
 | .st 3, _, _ => rfl
 | .st 4, _, _ => rfl
 | .st 5, h, _ => by cases h
 | .st 6, _, _ => rfl
 | .st 7, h, _ => by cases h
 | .st 8, h, _ => by cases h
 | .st 9, h, _ => by cases h
 | .st 10, h, _ => by cases h
 | .st 11, _, _ => rfl
 | .st 12, _, _ => rfl
 | .st 13, _, _ => rfl
 | .st 14, _, _ => rfl
 | .st 15, h, _ => by cases h
 | .st 16, _, _ => rfl
 | .st 17, _, _ => rfl
 | .st 18, _, _ => rfl
 | .st 19, h, _ => by cases h
 | .st 20, h, _ => by cases h
 | .st (_ + 21), _, _ => rfl
theorem zagr : ∀ t : Ty, aggT t = false → szT t = 1
 | .int _, _ => rfl
 | .bool, _ => rfl
 | .str, _ => rfl
 | .nil, _ => rfl
 | .sl _, _ => rfl
 | .st _, h => by cases h
theorem zqp : ELaws En where
 sz := zaeq
 pos := zagm
 fz := fun t x c hc => z4r (zz9 (zah5 t x) hc)
 one := zagr
 reify := fun t cs x h => by
  have h' : reify t cs = some x := h; unfold reify at h'; rw [Option.bind_eq_some_iff] at h'; obtain ⟨⟨y, r⟩, h1, h2⟩ := h'; cases r with
  | cons => cases h2
  | nil =>
   cases h2; obtain ⟨p, e, f⟩ := sp t cs _ _ h1; rw [List.append_nil] at e; subst e; exact ⟨f.length.trans (zaeq t _), fun j c c' g1 g2 => f.get j c c' g1 g2⟩
 flat := fun t ht x c hc => zy9 (zz9 (zafm t ht x) hc)
 slAgg := fun _ => rfl
 slEnc := fun _ _ => rfl
 ofTo := fun _ _ => rfl
 u8sz := rfl
 u8 := fun x => ⟨x, rfl⟩
 toInts := fun xs i x n h1 h2 => by cases h2; exact h1
 toIntsLen := fun _ => rfl
 ofInts := fun l i n h => ⟨n, h, rfl⟩
 ofIntsLen := fun _ => rfl
theorem z55 {O : List (Nat × Ct U)} {X : List (Nat × Nat)} {J : List (Nat × Amx.Spec U × List Ty)} {pre : List (Nat × List Nat)} {lits ro pk bj : List Nat} : CLaws (zzw O X J pre lits ro pk bj) :=
 z4w zqp (l := zaes) rfl (by kernel_rfl)
def ctv (ps : List (Md U)) (res outs : List Ty) (fr : List Nat) (ts : List Ty) (f : Fnc U ts (PT U (res ++ outs))) : Ct U := { params := ps, results := res, outs := outs, fresh := fr, fn := app U ts f }
def cvv (res ts : List Ty) (f : Fnc U ts (PT U (res ++ []))) : Ct U := ctv (ts.map .val) res [] [] ts f
def K0 : Ctx U := zzw [] [] [] [] [] [] [] []
@[reducible] def Kq : Type := Kp K0
structure Cf where
 X : List (Nat × Nat) := []
 J : List (Nat × Amx.Spec U × List Ty) := []
 pre : List (Nat × List Nat) := []
 lits : List Nat := []
 ro : List Nat := []
 pk : List Nat := []
 bj : List Nat := []
def cxo (l : List Kq) (c : Cf) : Ctx U := zzw (Osk l) c.X c.J c.pre c.lits c.ro c.pk c.bj
theorem go (l : List Kq) (c : Cf) {f : FuncId} {fn : Func} {ps : List (Md U)} {res outs : List Ty} {fr : List Nat} {ts : List Ty} {F : Fnc U ts (PT U (res ++ outs))} (L : List (Nat × Cut U (PT U ((ctv ps res outs fr ts F).results ++ (ctv ps res outs fr ts F).outs)))) (hf : Proofs.Tryz.prog.funcs[f]? = some fn) (hn : ((fn.name == "runtime.NumGoroutine") || !fn.body.isSome) = false := by kernel_rfl)
 (hok : zu2 (cxo l c) (ctv ps res outs fr ts F) = fun _ => true := by kernel_rfl) (hr : (cur ts (z3z (cxo l c) fn (ctv ps res outs fr ts F) (pick L)) : Fnc U ts (PT U (res ++ outs))) = F := by kernel_rfl) (hL : Ls (cxo l c) fn (ctv ps res outs fr ts F) (pick L) L := by exact trivial) (hX : ∀ p ∈ c.X, zse Proofs.Tryz.prog p := by exact zdb) : zgv K0 f (ctv ps res outs fr ts F) := by
 rw [Bool.or_eq_false_iff] at hn
 exact zgv.ctx (C := cxo l c) (C' := K0) rfl rfl rfl (z2z (C := cxo l c) z55 (z8h (C := cxo l c) (C0 := K0) (l := l) rfl rfl rfl rfl) (zt9 (l := c.X) rfl hX) hf hn.1 (by simpa using hn.2) (z7a rfl hL) (fun y => congrFun hok y) (z6i hr))
theorem zahj : zse Proofs.Tryz.prog (263, 2) := z5e Proofs.Tryz.func263 (by kernel_rfl) (by kernel_rfl) (by kernel_rfl) (by kernel_rfl)
theorem zaen : zse Proofs.Tryz.prog (268, 0) := z1v Proofs.Tryz.func268 (by kernel_rfl) (by kernel_rfl) (by kernel_rfl) (by kernel_rfl)
theorem zahi : zse Proofs.Tryz.prog (276, 1) := z1u Proofs.Tryz.func276 (by kernel_rfl) (by kernel_rfl) (by kernel_rfl) (by kernel_rfl)
end
end Go.Proofs.YtmifhmfokbigiaaGreatDoor.M
