/- The program's types, and their cells. -/
import Derived.Test.YtmifhmfokbigiaaGreatDoorA3
import Derived.Test.YtmifhmfokbigiaaGreatDoorShelf
import Derived.KernelRfl
namespace Go.Proofs.YtmifhmfokbigiaaGreatDoor.M
open Go Go.Amx
set_option linter.unusedVariables false
set_option maxRecDepth 100000
noncomputable section
structure zQ where
 x : Int
 y : Int
 signed : Bool
 code : Int
structure zO where
 msg : ByteArray
 addr : Int
structure DataType where
 Kind : Int
 Length : Int
 Scale : Int
structure Value where
 N : Int
 S : ByteArray
structure zF where
 Name : ByteArray
 Kind : Int
 zJ : DataType
 Value : Value
 Base : ByteArray
 Offset : Int
 Target : Int
structure zK where
 Op : Int
 Args : List Int
structure zM where
 From : Int
 To : Int
 Exception : Int
 Handler : Int
structure zB where
 zA : List zF
 zG : List zK
 zI : List zM
structure Storage where
 Bytes : ByteArray
 Tags : List Bool
structure zD where
 Storage : Storage
 At : Int
 Stack : List Int
 Lines : List ByteArray
 Status : Int
 Exception : Int
 Steps : Int
structure zP where
 Lines : List ByteArray
 Status : Int
 Exception : Int
 Steps : Int
structure zL where
 Part : Int
 Index : Int
structure Address where
 zU : Int
 Offset : Int
structure Pointer where
 Kind : Int
 Address : Address
 Authority : Int
structure Number where
 N : Int
 Scale : Int
structure zC where
 zB : zB
 zD : zD
 layout : List Int
 raised : Int
structure zS where
 Op : Int
 zJ : DataType
 Half : Bool
structure zH where
 e0 : Int
 e1 : Int
 e2 : Int
 e3 : Int
structure zN where
 below : Bool
 amount : zH
 division : zH
structure zT where
 Below : Bool
 zV : List Int
structure zR where
 Top : zT
 zW : List Int
inductive Ty where
 | int (k : IntKind)
 | bool
 | str
 | nil
 | sl (t : Ty)
 | st (n : Nat)
@[reducible] def zyg : Nat → Type
 | 0 => zQ
 | 1 => zO
 | 2 => DataType
 | 3 => Value
 | 4 => zF
 | 5 => zK
 | 6 => zM
 | 7 => zB
 | 8 => Storage
 | 9 => zD
 | 10 => zP
 | 11 => zL
 | 12 => Address
 | 13 => Pointer
 | 14 => Number
 | 15 => zC
 | 16 => zS
 | 17 => zH
 | 18 => zN
 | 19 => zT
 | 20 => zR
 | _ + 21 => Unit
@[reducible] def den : Ty → Type
 | .int _ => Int
 | .bool => Bool
 | .str => ByteArray
 | .nil => Unit
 | .sl t => List (den t)
 | .st n => zyg n
def eqTy : (a b : Ty) → Option (PLift (a = b))
 | .int j, .int k => if h : j = k then some ⟨by rw [h]⟩ else none
 | .bool, .bool => some ⟨rfl⟩
 | .str, .str => some ⟨rfl⟩
 | .nil, .nil => some ⟨rfl⟩
 | .sl a, .sl b => match eqTy a b with
  | some ⟨h⟩ => some ⟨by rw [h]⟩
  | none => none
 | .st i, .st j => if h : i = j then some ⟨by rw [h]⟩ else none
 | _, _ => none
@[reducible] def U : Uni := { Ty := Ty, den := den, eqTy := eqTy }
@[reducible] def T6 : Ty := Ty.int .i64
def w6 (n : Int) : Int := IntKind.wrap .i64 n
@[reducible] def Ty.zQ : Ty := .st 0
@[reducible] def Ty.zO : Ty := .st 1
@[reducible] def Ty.DataType : Ty := .st 2
@[reducible] def Ty.Value : Ty := .st 3
@[reducible] def Ty.zF : Ty := .st 4
@[reducible] def Ty.zK : Ty := .st 5
@[reducible] def Ty.zM : Ty := .st 6
@[reducible] def Ty.zB : Ty := .st 7
@[reducible] def Ty.Storage : Ty := .st 8
@[reducible] def Ty.zD : Ty := .st 9
@[reducible] def Ty.zP : Ty := .st 10
@[reducible] def Ty.zL : Ty := .st 11
@[reducible] def Ty.Address : Ty := .st 12
@[reducible] def Ty.Pointer : Ty := .st 13
@[reducible] def Ty.Number : Ty := .st 14
@[reducible] def Ty.zC : Ty := .st 15
@[reducible] def Ty.zS : Ty := .st 16
@[reducible] def Ty.zH : Ty := .st 17
@[reducible] def Ty.zN : Ty := .st 18
@[reducible] def Ty.zT : Ty := .st 19
@[reducible] def Ty.zR : Ty := .st 20
def zcn (k : IntKind) : List (AV U) → Option (Int × List (AV U))
 | .sc (.int k' n) :: l => if k = k' then some (n, l) else none
 | _ => none
def zo3 : List (AV U) → Option (Bool × List (AV U))
 | .sc (.bool b) :: l => some (b, l)
 | _ => none
def zqk : List (AV U) → Option (ByteArray × List (AV U))
 | .sc (.string s) :: l => some (s, l)
 | _ => none
def z1j : List (AV U) → Option (Unit × List (AV U))
 | .sc (.slice none 0 0) :: l => some ((), l)
 | _ => none
def rSl (t : Ty) : List (AV U) → Option (List (den t) × List (AV U))
 | .lst t' xs :: l => (U.eqTy t' t).map fun e => (zts e xs, l)
 | .sc (.slice none 0 0) :: l => some ([], l)
 | _ => none
def zhb (l : List (AV U)) : Option (zQ × List (AV U)) := (zcn .i64 l).bind fun x0 => (zcn .i64 x0.2).bind fun x1 => (zo3 x1.2).bind fun x2 => (zcn .u8 x2.2).bind fun x3 => some (⟨x0.1, x1.1, x2.1, x3.1⟩, x3.2)
def zfj (l : List (AV U)) : Option (zO × List (AV U)) := (zqk l).bind fun x0 => (zcn .u64 x0.2).bind fun x1 => some (⟨x0.1, x1.1⟩, x1.2)
def zlk (l : List (AV U)) : Option (DataType × List (AV U)) := (zcn .i64 l).bind fun x0 => (zcn .i64 x0.2).bind fun x1 => (zcn .i64 x1.2).bind fun x2 => some (⟨x0.1, x1.1, x2.1⟩, x2.2)
def ztd (l : List (AV U)) : Option (Value × List (AV U)) := (zcn .i64 l).bind fun x0 => (zqk x0.2).bind fun x1 => some (⟨x0.1, x1.1⟩, x1.2)
def zo1 (l : List (AV U)) : Option (zF × List (AV U)) := (zqk l).bind fun x0 => (zcn .i64 x0.2).bind fun x1 => (zlk x1.2).bind fun x2 => (ztd x2.2).bind fun x3 => (zqk x3.2).bind fun x4 => (zcn .i64 x4.2).bind fun x5 => (zcn .i64 x5.2).bind fun x6 => some (⟨x0.1, x1.1, x2.1, x3.1, x4.1, x5.1, x6.1⟩, x6.2)
def zku (l : List (AV U)) : Option (zK × List (AV U)) := (zcn .i64 l).bind fun x0 => (rSl (Ty.int .i64) x0.2).bind fun x1 => some (⟨x0.1, x1.1⟩, x1.2)
def zo2 (l : List (AV U)) : Option (zM × List (AV U)) := (zcn .i64 l).bind fun x0 => (zcn .i64 x0.2).bind fun x1 => (zcn .i64 x1.2).bind fun x2 => (zcn .i64 x2.2).bind fun x3 => some (⟨x0.1, x1.1, x2.1, x3.1⟩, x3.2)
def zl0 (l : List (AV U)) : Option (zB × List (AV U)) := (rSl Ty.zF l).bind fun x0 => (rSl Ty.zK x0.2).bind fun x1 => (rSl Ty.zM x1.2).bind fun x2 => some (⟨x0.1, x1.1, x2.1⟩, x2.2)
def zoz (l : List (AV U)) : Option (Storage × List (AV U)) := (zqk l).bind fun x0 => (rSl Ty.bool x0.2).bind fun x1 => some (⟨x0.1, x1.1⟩, x1.2)
def zo0 (l : List (AV U)) : Option (zD × List (AV U)) := (zoz l).bind fun x0 => (zcn .i64 x0.2).bind fun x1 => (rSl (Ty.int .i64) x1.2).bind fun x2 => (rSl Ty.str x2.2).bind fun x3 => (zcn .i64 x3.2).bind fun x4 => (zcn .i64 x4.2).bind fun x5 => (zcn .i64 x5.2).bind fun x6 => some (⟨x0.1, x1.1, x2.1, x3.1, x4.1, x5.1, x6.1⟩, x6.2)
def zql (l : List (AV U)) : Option (zP × List (AV U)) := (rSl Ty.str l).bind fun x0 => (zcn .i64 x0.2).bind fun x1 => (zcn .i64 x1.2).bind fun x2 => (zcn .i64 x2.2).bind fun x3 => some (⟨x0.1, x1.1, x2.1, x3.1⟩, x3.2)
def zsj (l : List (AV U)) : Option (zL × List (AV U)) := (zcn .i64 l).bind fun x0 => (zcn .i64 x0.2).bind fun x1 => some (⟨x0.1, x1.1⟩, x1.2)
def zo4 (l : List (AV U)) : Option (Address × List (AV U)) := (zcn .i64 l).bind fun x0 => (zcn .i64 x0.2).bind fun x1 => some (⟨x0.1, x1.1⟩, x1.2)
def zsi (l : List (AV U)) : Option (Pointer × List (AV U)) := (zcn .i64 l).bind fun x0 => (zo4 x0.2).bind fun x1 => (zcn .i64 x1.2).bind fun x2 => some (⟨x0.1, x1.1, x2.1⟩, x2.2)
def zt3 (l : List (AV U)) : Option (Number × List (AV U)) := (zcn .i64 l).bind fun x0 => (zcn .i64 x0.2).bind fun x1 => some (⟨x0.1, x1.1⟩, x1.2)
def zh6 (l : List (AV U)) : Option (zC × List (AV U)) := (zl0 l).bind fun x0 => (zo0 x0.2).bind fun x1 => (rSl (Ty.int .i64) x1.2).bind fun x2 => (zcn .i64 x2.2).bind fun x3 => some (⟨x0.1, x1.1, x2.1, x3.1⟩, x3.2)
def zkq (l : List (AV U)) : Option (zS × List (AV U)) := (zcn .i64 l).bind fun x0 => (zlk x0.2).bind fun x1 => (zo3 x1.2).bind fun x2 => some (⟨x0.1, x1.1, x2.1⟩, x2.2)
def zob (l : List (AV U)) : Option (zH × List (AV U)) := (zcn .u64 l).bind fun x0 => (zcn .u64 x0.2).bind fun x1 => (zcn .u64 x1.2).bind fun x2 => (zcn .u64 x2.2).bind fun x3 => some (⟨x0.1, x1.1, x2.1, x3.1⟩, x3.2)
def ziu (l : List (AV U)) : Option (zN × List (AV U)) := (zo3 l).bind fun x0 => (zob x0.2).bind fun x1 => (zob x1.2).bind fun x2 => some (⟨x0.1, x1.1, x2.1⟩, x2.2)
def zk9 (l : List (AV U)) : Option (zT × List (AV U)) := (zo3 l).bind fun x0 => (rSl (Ty.int .i64) x0.2).bind fun x1 => some (⟨x0.1, x1.1⟩, x1.2)
def zj5 (l : List (AV U)) : Option (zR × List (AV U)) := (zk9 l).bind fun x0 => (rSl (Ty.int .i64) x0.2).bind fun x1 => some (⟨x0.1, x1.1⟩, x1.2)
def zkh (x : zQ) : List (AV U) := [.sc (.int .i64 x.x), .sc (.int .i64 x.y), .sc (.bool x.signed), .sc (.int .u8 x.code)]
def zg8 (x : zO) : List (AV U) := [.sc (.string x.msg), .sc (.int .u64 x.addr)]
def zuz (x : DataType) : List (AV U) := [.sc (.int .i64 x.Kind), .sc (.int .i64 x.Length), .sc (.int .i64 x.Scale)]
def z0q (x : Value) : List (AV U) := [.sc (.int .i64 x.N), .sc (.string x.S)]
def zto (x : zF) : List (AV U) := [.sc (.string x.Name), .sc (.int .i64 x.Kind), .sc (.int .i64 x.zJ.Kind), .sc (.int .i64 x.zJ.Length), .sc (.int .i64 x.zJ.Scale), .sc (.int .i64 x.Value.N), .sc (.string x.Value.S), .sc (.string x.Base), .sc (.int .i64 x.Offset), .sc (.int .i64 x.Target)]
def ziq (x : zK) : List (AV U) := [.sc (.int .i64 x.Op), .lst (Ty.int .i64) x.Args]
def ztp (x : zM) : List (AV U) := [.sc (.int .i64 x.From), .sc (.int .i64 x.To), .sc (.int .i64 x.Exception), .sc (.int .i64 x.Handler)]
def zgm (x : zB) : List (AV U) := [.lst Ty.zF x.zA, .lst Ty.zK x.zG, .lst Ty.zM x.zI]
def zwu (x : Storage) : List (AV U) := [.sc (.string x.Bytes), .lst Ty.bool x.Tags]
def zww (x : zD) : List (AV U) := [.sc (.string x.Storage.Bytes), .lst Ty.bool x.Storage.Tags, .sc (.int .i64 x.At), .lst (Ty.int .i64) x.Stack, .lst Ty.str x.Lines, .sc (.int .i64 x.Status), .sc (.int .i64 x.Exception), .sc (.int .i64 x.Steps)]
def zuy (x : zP) : List (AV U) := [.lst Ty.str x.Lines, .sc (.int .i64 x.Status), .sc (.int .i64 x.Exception), .sc (.int .i64 x.Steps)]
def zwx (x : zL) : List (AV U) := [.sc (.int .i64 x.Part), .sc (.int .i64 x.Index)]
def zwy (x : Address) : List (AV U) := [.sc (.int .i64 x.zU), .sc (.int .i64 x.Offset)]
def zwv (x : Pointer) : List (AV U) := [.sc (.int .i64 x.Kind), .sc (.int .i64 x.Address.zU), .sc (.int .i64 x.Address.Offset), .sc (.int .i64 x.Authority)]
def zx0 (x : Number) : List (AV U) := [.sc (.int .i64 x.N), .sc (.int .i64 x.Scale)]
def zlr (x : zC) : List (AV U) := [.lst Ty.zF x.zB.zA, .lst Ty.zK x.zB.zG, .lst Ty.zM x.zB.zI, .sc (.string x.zD.Storage.Bytes), .lst Ty.bool x.zD.Storage.Tags, .sc (.int .i64 x.zD.At), .lst (Ty.int .i64) x.zD.Stack, .lst Ty.str x.zD.Lines, .sc (.int .i64 x.zD.Status), .sc (.int .i64 x.zD.Exception), .sc (.int .i64 x.zD.Steps), .lst (Ty.int .i64) x.layout, .sc (.int .i64 x.raised)]
def zof (x : zS) : List (AV U) := [.sc (.int .i64 x.Op), .sc (.int .i64 x.zJ.Kind), .sc (.int .i64 x.zJ.Length), .sc (.int .i64 x.zJ.Scale), .sc (.bool x.Half)]
def zx1 (x : zH) : List (AV U) := [.sc (.int .u64 x.e0), .sc (.int .u64 x.e1), .sc (.int .u64 x.e2), .sc (.int .u64 x.e3)]
def zlv (x : zN) : List (AV U) := [.sc (.bool x.below), .sc (.int .u64 x.amount.e0), .sc (.int .u64 x.amount.e1), .sc (.int .u64 x.amount.e2), .sc (.int .u64 x.amount.e3), .sc (.int .u64 x.division.e0), .sc (.int .u64 x.division.e1), .sc (.int .u64 x.division.e2), .sc (.int .u64 x.division.e3)]
def zr4 (x : zT) : List (AV U) := [.sc (.bool x.Below), .lst (Ty.int .i64) x.zV]
def zni (x : zR) : List (AV U) := [.sc (.bool x.Top.Below), .lst (Ty.int .i64) x.Top.zV, .lst (Ty.int .i64) x.zW]
def z5k : (n : Nat) → zyg n → List (AV U)
 | 0, x => zkh x
 | 1, x => zg8 x
 | 2, x => zuz x
 | 3, x => z0q x
 | 4, x => zto x
 | 5, x => ziq x
 | 6, x => ztp x
 | 7, x => zgm x
 | 8, x => zwu x
 | 9, x => zww x
 | 10, x => zuy x
 | 11, x => zwx x
 | 12, x => zwy x
 | 13, x => zwv x
 | 14, x => zx0 x
 | 15, x => zlr x
 | 16, x => zof x
 | 17, x => zx1 x
 | 18, x => zlv x
 | 19, x => zr4 x
 | 20, x => zni x
 | _ + 21, _ => [.sc (.bool true)]
def z5o : (n : Nat) → List (AV U) → Option (zyg n × List (AV U))
 | 0, l => zhb l
 | 1, l => zfj l
 | 2, l => zlk l
 | 3, l => ztd l
 | 4, l => zo1 l
 | 5, l => zku l
 | 6, l => zo2 l
 | 7, l => zl0 l
 | 8, l => zoz l
 | 9, l => zo0 l
 | 10, l => zql l
 | 11, l => zsj l
 | 12, l => zo4 l
 | 13, l => zsi l
 | 14, l => zt3 l
 | 15, l => zh6 l
 | 16, l => zkq l
 | 17, l => zob l
 | 18, l => ziu l
 | 19, l => zk9 l
 | 20, l => zj5 l
 | _ + 21, _ => none
def enc : (t : Ty) → den t → List (AV U)
 | .int k, n => [.sc (.int k n)]
 | .bool, b => [.sc (.bool b)]
 | .str, s => [.sc (.string s)]
 | .nil, _ => [.sc (.slice none 0 0)]
 | .sl t, xs => [.lst t xs]
 | .st n, x => z5k n x
def rd : (t : Ty) → List (AV U) → Option (den t × List (AV U))
 | .int k, l => zcn k l
 | .bool, l => zo3 l
 | .str, l => zqk l
 | .nil, l => z1j l
 | .sl t, l => rSl t l
 | .st n, l => z5o n l
def reify (t : Ty) (l : List (AV U)) : Option (den t) := (rd t l).bind fun r => match r.2 with
 | [] => some r.1
 | _ => none
def z5m : Nat → Nat
 | 0 => 4
 | 1 => 2
 | 2 => 3
 | 3 => 2
 | 4 => 10
 | 5 => 2
 | 6 => 4
 | 7 => 3
 | 8 => 2
 | 9 => 8
 | 10 => 4
 | 11 => 2
 | 12 => 2
 | 13 => 4
 | 14 => 2
 | 15 => 13
 | 16 => 5
 | 17 => 4
 | 18 => 9
 | 19 => 2
 | 20 => 3
 | _ + 21 => 1
def z4j : Nat → Bool
 | 0 => true
 | 1 => true
 | 2 => true
 | 3 => true
 | 4 => true
 | 5 => false
 | 6 => true
 | 7 => false
 | 8 => false
 | 9 => false
 | 10 => false
 | 11 => true
 | 12 => true
 | 13 => true
 | 14 => true
 | 15 => false
 | 16 => true
 | 17 => true
 | 18 => true
 | 19 => false
 | 20 => false
 | _ + 21 => true
def szT : Ty → Nat
 | .st n => z5m n
 | _ => 1
def z4m : Ty → Bool
 | .st _ => true
 | _ => false
def z2j : Ty → Bool
 | .sl _ => false
 | .st n => z4j n
 | _ => true
def z2g : List (Nat × Ty) := [(2, (Ty.int .i64)), (3, (Ty.int .i64)), (4, Ty.bool), (5, (Ty.int .u8)), (6, (Ty.int .u8)), (8, Ty.zQ), (9, Ty.str), (10, Ty.str), (11, Ty.str), (12, (Ty.int .u64)), (14, Ty.zO), (21, (Ty.int .i32)), (22, (Ty.sl Ty.zF)), (23, (Ty.sl Ty.zK)), (24, (Ty.sl Ty.zM)), (26, Ty.zB), (29, (Ty.sl Ty.zD)), (30, (Ty.int .i64)), (38, (Ty.sl Ty.bool)), (40, Ty.Storage), (41, (Ty.sl (Ty.int .i64))), (42, (Ty.sl Ty.str)), (44, Ty.zD), (47, Ty.zK), (65, Ty.zP), (77, Ty.DataType), (79, Ty.Value), (81, Ty.zF), (89, Ty.zL), (94, Ty.zM), (110, Ty.Address), (112, Ty.Pointer), (132, Ty.Number), (136, (Ty.sl (Ty.int .i64))), (163, Ty.zC), (179, (Ty.sl (Ty.int .u8))), (210, Ty.zS), (227, (Ty.int .u64)), (249, (Ty.int .u64)), (250, Ty.zH), (251, Ty.zH), (253, Ty.zN), (257, Ty.zT), (259, Ty.zR), (271, (Ty.int .u32)), (294, (Ty.int .i8)), (309, (Ty.sl (Ty.sl (Ty.int .u8)))), (322, (Ty.int .u8)), (323, (Ty.int .u8)), (325, (Ty.int .i32)), (326, (Ty.int .i32))]
def En : Enc U := { sz := szT, agg := z4m, flat := z2j, enc := enc, reify := reify, ofGo := pick z2g, sl := Ty.sl, toSl := fun _ xs => xs, ofSl := fun _ xs => xs, u8 := .int .u8, ofInts := fun l => l, toInts := fun l => l }
def zne : List (List Int) := [[0, 4], [2, 3], [2, 3, 3], [2, 3, 3], [2, 3, 3], [2, 3, 3], [2, 3, 3], [1, 4, 6], [1, 4, 6], [6], [5, 0], [5, 5], [5, 3], [6], [], [3], [2], [1], []]
def z2i : List Int := [1, 10, 100, 1000, 10000, 100000, 1000000, 10000000, 100000000, 1000000000, 10000000000, 100000000000, 1000000000000, 10000000000000, 100000000000000, 1000000000000000, 10000000000000000, 100000000000000000, 1000000000000000000, 10000000000000000000]
def z5h : List Int := [0, 1, 28, 2, 29, 14, 24, 3, 30, 22, 20, 15, 25, 17, 4, 8, 31, 27, 13, 23, 21, 19, 16, 7, 26, 12, 18, 6, 11, 5, 10, 9]
def z5g : List Int := [0, 1, 56, 2, 57, 49, 28, 3, 61, 58, 42, 50, 38, 29, 17, 4, 62, 47, 59, 36, 45, 43, 51, 22, 53, 39, 33, 30, 24, 18, 12, 5, 63, 55, 48, 27, 60, 41, 37, 16, 46, 35, 44, 21, 52, 32, 23, 11, 54, 26, 40, 15, 34, 20, 31, 10, 25, 14, 19, 9, 13, 8, 7, 6]
def globs : List (Nat × AV U) := [(0, .rarr (Ty.sl (Ty.int .i64)) zne), (2, .rarr (Ty.int .u64) z2i), (3, .rarr (Ty.int .u8) z5h), (4, .rarr (Ty.int .u8) z5g)]
def zpe (O : List (Nat × Ct U)) (X : List (Nat × Nat)) (J : List (Nat × Amx.Spec U × List Ty)) (pre : List (Nat × List Nat)) (lits ro pk bj : List Nat) : Ctx U :=
 { P := Proofs.Tryz.prog, En := En, G := pick globs, O := pick O, X := pick X, joins := pick J, pre := fun r => (pick pre r).getD [], lits := lits, ro := ro, pk := pk, bj := bj }
theorem zba (k : IntKind) : Sp (U := U) (zcn k) (fun n : Int => [.sc (.int k n)]) := fun l x r h => by
 unfold zcn at h
 split at h
 · split at h
   · rename_i e; cases h; subst e; exact ⟨[_], rfl, F2.refl_ref _⟩
   · cases h
 · cases h
theorem zn7 : Sp (U := U) zo3 (fun b : Bool => [.sc (.bool b)]) := fun l x r h => by
 unfold zo3 at h
 split at h
 · cases h; exact ⟨[_], rfl, F2.refl_ref _⟩
 · cases h
theorem zn6 : Sp (U := U) zqk (fun s : ByteArray => [.sc (.string s)]) := fun l x r h => by
 unfold zqk at h
 split at h
 · cases h; exact ⟨[_], rfl, F2.refl_ref _⟩
 · cases h
theorem z3y : Sp (U := U) z1j (fun _ : Unit => [.sc (.slice none 0 0)]) := fun l x r h => by
 unfold z1j at h
 split at h
 · cases h; exact ⟨[_], rfl, F2.refl_ref _⟩
 · cases h
theorem zi8 (t : Ty) : Sp (U := U) (rSl t) (fun xs : List (den t) => [.lst t xs]) := fun l x r h => by
 unfold rSl at h
 split at h
 · rw [Option.map_eq_some_iff] at h; obtain ⟨⟨e⟩, _, h2⟩ := h; cases e; cases h2; exact ⟨[_], rfl, F2.refl_ref _⟩
 · cases h; exact ⟨[_], rfl, .cons (.inr ⟨rfl, _, rfl⟩) .nil⟩
 · cases h
theorem zns : Sp (U := U) zhb zkh := fun l x r h => by
 unfold zhb at h
 obtain ⟨x0, r0, p0, e0, f0, h⟩ := (zba .i64).step h
 obtain ⟨x1, r1, p1, (e1 : r0 = p1 ++ r1), f1, h⟩ := (zba .i64).step h
 obtain ⟨x2, r2, p2, (e2 : r1 = p2 ++ r2), f2, h⟩ := zn7.step h
 obtain ⟨x3, r3, p3, (e3 : r2 = p3 ++ r3), f3, h⟩ := (zba .u8).step h
 cases h
 exact ⟨(p0 ++ (p1 ++ (p2 ++ p3))), by rw [e0, e1, e2, e3]; simp only [List.append_assoc], (f0.append (f1.append (f2.append f3)))⟩
theorem zko : Sp (U := U) zfj zg8 := fun l x r h => by
 unfold zfj at h
 obtain ⟨x0, r0, p0, e0, f0, h⟩ := zn6.step h
 obtain ⟨x1, r1, p1, (e1 : r0 = p1 ++ r1), f1, h⟩ := (zba .u64).step h
 cases h
 exact ⟨(p0 ++ p1), by rw [e0, e1]; simp only [List.append_assoc], (f0.append f1)⟩
theorem znt : Sp (U := U) zlk zuz := fun l x r h => by
 unfold zlk at h
 obtain ⟨x0, r0, p0, e0, f0, h⟩ := (zba .i64).step h
 obtain ⟨x1, r1, p1, (e1 : r0 = p1 ++ r1), f1, h⟩ := (zba .i64).step h
 obtain ⟨x2, r2, p2, (e2 : r1 = p2 ++ r2), f2, h⟩ := (zba .i64).step h
 cases h
 exact ⟨(p0 ++ (p1 ++ p2)), by rw [e0, e1, e2]; simp only [List.append_assoc], (f0.append (f1.append f2))⟩
theorem zvm : Sp (U := U) ztd z0q := fun l x r h => by
 unfold ztd at h
 obtain ⟨x0, r0, p0, e0, f0, h⟩ := (zba .i64).step h
 obtain ⟨x1, r1, p1, (e1 : r0 = p1 ++ r1), f1, h⟩ := zn6.step h
 cases h
 exact ⟨(p0 ++ p1), by rw [e0, e1]; simp only [List.append_assoc], (f0.append f1)⟩
theorem zvn : Sp (U := U) zo1 zto := fun l x r h => by
 unfold zo1 at h
 obtain ⟨x0, r0, p0, e0, f0, h⟩ := zn6.step h
 obtain ⟨x1, r1, p1, (e1 : r0 = p1 ++ r1), f1, h⟩ := (zba .i64).step h
 obtain ⟨x2, r2, p2, (e2 : r1 = p2 ++ r2), f2, h⟩ := znt.step h
 obtain ⟨x3, r3, p3, (e3 : r2 = p3 ++ r3), f3, h⟩ := zvm.step h
 obtain ⟨x4, r4, p4, (e4 : r3 = p4 ++ r4), f4, h⟩ := zn6.step h
 obtain ⟨x5, r5, p5, (e5 : r4 = p5 ++ r5), f5, h⟩ := (zba .i64).step h
 obtain ⟨x6, r6, p6, (e6 : r5 = p6 ++ r6), f6, h⟩ := (zba .i64).step h
 cases h
 exact ⟨(p0 ++ (p1 ++ (p2 ++ (p3 ++ (p4 ++ (p5 ++ p6)))))), by rw [e0, e1, e2, e3, e4, e5, e6]; simp only [List.append_assoc], (f0.append (f1.append (f2.append (f3.append (f4.append (f5.append f6))))))⟩
theorem zsb : Sp (U := U) zku ziq := fun l x r h => by
 unfold zku at h
 obtain ⟨x0, r0, p0, e0, f0, h⟩ := (zba .i64).step h
 obtain ⟨x1, r1, p1, (e1 : r0 = p1 ++ r1), f1, h⟩ := (zi8 (Ty.int .i64)).step h
 cases h
 exact ⟨(p0 ++ p1), by rw [e0, e1]; simp only [List.append_assoc], (f0.append f1)⟩
theorem zvo : Sp (U := U) zo2 ztp := fun l x r h => by
 unfold zo2 at h
 obtain ⟨x0, r0, p0, e0, f0, h⟩ := (zba .i64).step h
 obtain ⟨x1, r1, p1, (e1 : r0 = p1 ++ r1), f1, h⟩ := (zba .i64).step h
 obtain ⟨x2, r2, p2, (e2 : r1 = p2 ++ r2), f2, h⟩ := (zba .i64).step h
 obtain ⟨x3, r3, p3, (e3 : r2 = p3 ++ r3), f3, h⟩ := (zba .i64).step h
 cases h
 exact ⟨(p0 ++ (p1 ++ (p2 ++ p3))), by rw [e0, e1, e2, e3]; simp only [List.append_assoc], (f0.append (f1.append (f2.append f3)))⟩
theorem zp8 : Sp (U := U) zl0 zgm := fun l x r h => by
 unfold zl0 at h
 obtain ⟨x0, r0, p0, e0, f0, h⟩ := (zi8 Ty.zF).step h
 obtain ⟨x1, r1, p1, (e1 : r0 = p1 ++ r1), f1, h⟩ := (zi8 Ty.zK).step h
 obtain ⟨x2, r2, p2, (e2 : r1 = p2 ++ r2), f2, h⟩ := (zi8 Ty.zM).step h
 cases h
 exact ⟨(p0 ++ (p1 ++ p2)), by rw [e0, e1, e2]; simp only [List.append_assoc], (f0.append (f1.append f2))⟩
theorem zs0 : Sp (U := U) zoz zwu := fun l x r h => by
 unfold zoz at h
 obtain ⟨x0, r0, p0, e0, f0, h⟩ := zn6.step h
 obtain ⟨x1, r1, p1, (e1 : r0 = p1 ++ r1), f1, h⟩ := (zi8 Ty.bool).step h
 cases h
 exact ⟨(p0 ++ p1), by rw [e0, e1]; simp only [List.append_assoc], (f0.append f1)⟩
theorem zs1 : Sp (U := U) zo0 zww := fun l x r h => by
 unfold zo0 at h
 obtain ⟨x0, r0, p0, e0, f0, h⟩ := zs0.step h
 obtain ⟨x1, r1, p1, (e1 : r0 = p1 ++ r1), f1, h⟩ := (zba .i64).step h
 obtain ⟨x2, r2, p2, (e2 : r1 = p2 ++ r2), f2, h⟩ := (zi8 (Ty.int .i64)).step h
 obtain ⟨x3, r3, p3, (e3 : r2 = p3 ++ r3), f3, h⟩ := (zi8 Ty.str).step h
 obtain ⟨x4, r4, p4, (e4 : r3 = p4 ++ r4), f4, h⟩ := (zba .i64).step h
 obtain ⟨x5, r5, p5, (e5 : r4 = p5 ++ r5), f5, h⟩ := (zba .i64).step h
 obtain ⟨x6, r6, p6, (e6 : r5 = p6 ++ r6), f6, h⟩ := (zba .i64).step h
 cases h
 exact ⟨(p0 ++ (p1 ++ (p2 ++ (p3 ++ (p4 ++ (p5 ++ p6)))))), by rw [e0, e1, e2, e3, e4, e5, e6]; simp only [List.append_assoc], (f0.append (f1.append (f2.append (f3.append (f4.append (f5.append f6))))))⟩
theorem zw9 : Sp (U := U) zql zuy := fun l x r h => by
 unfold zql at h
 obtain ⟨x0, r0, p0, e0, f0, h⟩ := (zi8 Ty.str).step h
 obtain ⟨x1, r1, p1, (e1 : r0 = p1 ++ r1), f1, h⟩ := (zba .i64).step h
 obtain ⟨x2, r2, p2, (e2 : r1 = p2 ++ r2), f2, h⟩ := (zba .i64).step h
 obtain ⟨x3, r3, p3, (e3 : r2 = p3 ++ r3), f3, h⟩ := (zba .i64).step h
 cases h
 exact ⟨(p0 ++ (p1 ++ (p2 ++ p3))), by rw [e0, e1, e2, e3]; simp only [List.append_assoc], (f0.append (f1.append (f2.append f3)))⟩
theorem zyi : Sp (U := U) zsj zwx := fun l x r h => by
 unfold zsj at h
 obtain ⟨x0, r0, p0, e0, f0, h⟩ := (zba .i64).step h
 obtain ⟨x1, r1, p1, (e1 : r0 = p1 ++ r1), f1, h⟩ := (zba .i64).step h
 cases h
 exact ⟨(p0 ++ p1), by rw [e0, e1]; simp only [List.append_assoc], (f0.append f1)⟩
theorem zs2 : Sp (U := U) zo4 zwy := fun l x r h => by
 unfold zo4 at h
 obtain ⟨x0, r0, p0, e0, f0, h⟩ := (zba .i64).step h
 obtain ⟨x1, r1, p1, (e1 : r0 = p1 ++ r1), f1, h⟩ := (zba .i64).step h
 cases h
 exact ⟨(p0 ++ p1), by rw [e0, e1]; simp only [List.append_assoc], (f0.append f1)⟩
theorem zyh : Sp (U := U) zsi zwv := fun l x r h => by
 unfold zsi at h
 obtain ⟨x0, r0, p0, e0, f0, h⟩ := (zba .i64).step h
 obtain ⟨x1, r1, p1, (e1 : r0 = p1 ++ r1), f1, h⟩ := zs2.step h
 obtain ⟨x2, r2, p2, (e2 : r1 = p2 ++ r2), f2, h⟩ := (zba .i64).step h
 cases h
 exact ⟨(p0 ++ (p1 ++ p2)), by rw [e0, e1, e2]; simp only [List.append_assoc], (f0.append (f1.append f2))⟩
theorem zzp : Sp (U := U) zt3 zx0 := fun l x r h => by
 unfold zt3 at h
 obtain ⟨x0, r0, p0, e0, f0, h⟩ := (zba .i64).step h
 obtain ⟨x1, r1, p1, (e1 : r0 = p1 ++ r1), f1, h⟩ := (zba .i64).step h
 cases h
 exact ⟨(p0 ++ p1), by rw [e0, e1]; simp only [List.append_assoc], (f0.append f1)⟩
theorem zoq : Sp (U := U) zh6 zlr := fun l x r h => by
 unfold zh6 at h
 obtain ⟨x0, r0, p0, e0, f0, h⟩ := zp8.step h
 obtain ⟨x1, r1, p1, (e1 : r0 = p1 ++ r1), f1, h⟩ := zs1.step h
 obtain ⟨x2, r2, p2, (e2 : r1 = p2 ++ r2), f2, h⟩ := (zi8 (Ty.int .i64)).step h
 obtain ⟨x3, r3, p3, (e3 : r2 = p3 ++ r3), f3, h⟩ := (zba .i64).step h
 cases h
 exact ⟨(p0 ++ (p1 ++ (p2 ++ p3))), by rw [e0, e1, e2, e3]; simp only [List.append_assoc], (f0.append (f1.append (f2.append f3)))⟩
theorem zsa : Sp (U := U) zkq zof := fun l x r h => by
 unfold zkq at h
 obtain ⟨x0, r0, p0, e0, f0, h⟩ := (zba .i64).step h
 obtain ⟨x1, r1, p1, (e1 : r0 = p1 ++ r1), f1, h⟩ := znt.step h
 obtain ⟨x2, r2, p2, (e2 : r1 = p2 ++ r2), f2, h⟩ := zn7.step h
 cases h
 exact ⟨(p0 ++ (p1 ++ p2)), by rw [e0, e1, e2]; simp only [List.append_assoc], (f0.append (f1.append f2))⟩
theorem zp9 : Sp (U := U) zob zx1 := fun l x r h => by
 unfold zob at h
 obtain ⟨x0, r0, p0, e0, f0, h⟩ := (zba .u64).step h
 obtain ⟨x1, r1, p1, (e1 : r0 = p1 ++ r1), f1, h⟩ := (zba .u64).step h
 obtain ⟨x2, r2, p2, (e2 : r1 = p2 ++ r2), f2, h⟩ := (zba .u64).step h
 obtain ⟨x3, r3, p3, (e3 : r2 = p3 ++ r3), f3, h⟩ := (zba .u64).step h
 cases h
 exact ⟨(p0 ++ (p1 ++ (p2 ++ p3))), by rw [e0, e1, e2, e3]; simp only [List.append_assoc], (f0.append (f1.append (f2.append f3)))⟩
theorem zp2 : Sp (U := U) ziu zlv := fun l x r h => by
 unfold ziu at h
 obtain ⟨x0, r0, p0, e0, f0, h⟩ := zn7.step h
 obtain ⟨x1, r1, p1, (e1 : r0 = p1 ++ r1), f1, h⟩ := zp9.step h
 obtain ⟨x2, r2, p2, (e2 : r1 = p2 ++ r2), f2, h⟩ := zp9.step h
 cases h
 exact ⟨(p0 ++ (p1 ++ p2)), by rw [e0, e1, e2]; simp only [List.append_assoc], (f0.append (f1.append f2))⟩
theorem zpw : Sp (U := U) zk9 zr4 := fun l x r h => by
 unfold zk9 at h
 obtain ⟨x0, r0, p0, e0, f0, h⟩ := zn7.step h
 obtain ⟨x1, r1, p1, (e1 : r0 = p1 ++ r1), f1, h⟩ := (zi8 (Ty.int .i64)).step h
 cases h
 exact ⟨(p0 ++ p1), by rw [e0, e1]; simp only [List.append_assoc], (f0.append f1)⟩
theorem zrl : Sp (U := U) zj5 zni := fun l x r h => by
 unfold zj5 at h
 obtain ⟨x0, r0, p0, e0, f0, h⟩ := zpw.step h
 obtain ⟨x1, r1, p1, (e1 : r0 = p1 ++ r1), f1, h⟩ := (zi8 (Ty.int .i64)).step h
 cases h
 exact ⟨(p0 ++ p1), by rw [e0, e1]; simp only [List.append_assoc], (f0.append f1)⟩
theorem sp : ∀ t : Ty, Sp (U := U) (rd t) (enc t)
 | .int k => zba k
 | .bool => zn7
 | .str => zn6
 | .nil => z3y
 | .sl t => zi8 t
 | .st 0 => zns
 | .st 1 => zko
 | .st 2 => znt
 | .st 3 => zvm
 | .st 4 => zvn
 | .st 5 => zsb
 | .st 6 => zvo
 | .st 7 => zp8
 | .st 8 => zs0
 | .st 9 => zs1
 | .st 10 => zw9
 | .st 11 => zyi
 | .st 12 => zs2
 | .st 13 => zyh
 | .st 14 => zzp
 | .st 15 => zoq
 | .st 16 => zsa
 | .st 17 => zp9
 | .st 18 => zp2
 | .st 19 => zpw
 | .st 20 => zrl
 | .st (_ + 21) => fun l x r h => by cases h
theorem z2d : ∀ (t : Ty) (x : den t), (enc t x).length = szT t
 | .int _, _ => rfl
 | .bool, _ => rfl
 | .str, _ => rfl
 | .nil, _ => rfl
 | .sl _, _ => rfl
 | .st 0, _ => rfl
 | .st 1, _ => rfl
 | .st 2, _ => rfl
 | .st 3, _ => rfl
 | .st 4, _ => rfl
 | .st 5, _ => rfl
 | .st 6, _ => rfl
 | .st 7, _ => rfl
 | .st 8, _ => rfl
 | .st 9, _ => rfl
 | .st 10, _ => rfl
 | .st 11, _ => rfl
 | .st 12, _ => rfl
 | .st 13, _ => rfl
 | .st 14, _ => rfl
 | .st 15, _ => rfl
 | .st 16, _ => rfl
 | .st 17, _ => rfl
 | .st 18, _ => rfl
 | .st 19, _ => rfl
 | .st 20, _ => rfl
 | .st (_ + 21), _ => rfl
theorem z36 : ∀ t : Ty, 0 < szT t
 | .int _ => Nat.one_pos
 | .bool => Nat.one_pos
 | .str => Nat.one_pos
 | .nil => Nat.one_pos
 | .sl _ => Nat.one_pos
 | .st 0 => (by decide : 0 < 4)
 | .st 1 => (by decide : 0 < 2)
 | .st 2 => (by decide : 0 < 3)
 | .st 3 => (by decide : 0 < 2)
 | .st 4 => (by decide : 0 < 10)
 | .st 5 => (by decide : 0 < 2)
 | .st 6 => (by decide : 0 < 4)
 | .st 7 => (by decide : 0 < 3)
 | .st 8 => (by decide : 0 < 2)
 | .st 9 => (by decide : 0 < 8)
 | .st 10 => (by decide : 0 < 4)
 | .st 11 => (by decide : 0 < 2)
 | .st 12 => (by decide : 0 < 2)
 | .st 13 => (by decide : 0 < 4)
 | .st 14 => (by decide : 0 < 2)
 | .st 15 => (by decide : 0 < 13)
 | .st 16 => (by decide : 0 < 5)
 | .st 17 => (by decide : 0 < 4)
 | .st 18 => (by decide : 0 < 9)
 | .st 19 => (by decide : 0 < 2)
 | .st 20 => (by decide : 0 < 3)
 | .st (_ + 21) => Nat.one_pos
theorem z5i : ∀ (t : Ty) (x : den t), (enc t x).all (fzc (U := U)) = true
 | .int _, _ => rfl
 | .bool, _ => rfl
 | .str, _ => rfl
 | .nil, _ => rfl
 | .sl _, _ => rfl
 | .st 0, _ => rfl
 | .st 1, _ => rfl
 | .st 2, _ => rfl
 | .st 3, _ => rfl
 | .st 4, _ => rfl
 | .st 5, _ => rfl
 | .st 6, _ => rfl
 | .st 7, _ => rfl
 | .st 8, _ => rfl
 | .st 9, _ => rfl
 | .st 10, _ => rfl
 | .st 11, _ => rfl
 | .st 12, _ => rfl
 | .st 13, _ => rfl
 | .st 14, _ => rfl
 | .st 15, _ => rfl
 | .st 16, _ => rfl
 | .st 17, _ => rfl
 | .st 18, _ => rfl
 | .st 19, _ => rfl
 | .st 20, _ => rfl
 | .st (_ + 21), _ => rfl
theorem z3k : ∀ t : Ty, z2j t = true → ∀ x : den t, (enc t x).all (zzr (U := U)) = true
 | .int _, _, _ => rfl
 | .bool, _, _ => rfl
 | .str, _, _ => rfl
 | .nil, _, _ => rfl
 | .sl _, h, _ => by cases h
 | .st 0, _, _ => rfl
 | .st 1, _, _ => rfl
 | .st 2, _, _ => rfl
 | .st 3, _, _ => rfl
 | .st 4, _, _ => rfl
 | .st 5, h, _ => by cases h
 | .st 6, _, _ => rfl
 | .st 7, h, _ => by cases h
 | .st 8, h, _ => by cases h
 | .st 9, h, _ => by cases h
 | .st 10, h, _ => by cases h
 | .st 11, _, _ => rfl
 | .st 12, _, _ => rfl
 | .st 13, _, _ => rfl
 | .st 14, _, _ => rfl
 | .st 15, h, _ => by cases h
 | .st 16, _, _ => rfl
 | .st 17, _, _ => rfl
 | .st 18, _, _ => rfl
 | .st 19, h, _ => by cases h
 | .st 20, h, _ => by cases h
 | .st (_ + 21), _, _ => rfl
theorem z4c : ∀ t : Ty, z4m t = false → szT t = 1
 | .int _, _ => rfl
 | .bool, _ => rfl
 | .str, _ => rfl
 | .nil, _ => rfl
 | .sl _, _ => rfl
 | .st _, h => by cases h
theorem zje : ELaws En where
 sz := z2d
 pos := z36
 fz := fun t x c hc => z1z (zx6 (z5i t x) hc)
 one := z4c
 reify := fun t cs x h => by
  have h' : reify t cs = some x := h; unfold reify at h'; rw [Option.bind_eq_some_iff] at h'; obtain ⟨⟨y, r⟩, h1, h2⟩ := h'; cases r with
  | cons => cases h2
  | nil =>
   cases h2; obtain ⟨p, e, f⟩ := sp t cs _ _ h1; rw [List.append_nil] at e; subst e; exact ⟨f.length.trans (z2d t _), fun j c c' g1 g2 => f.get j c c' g1 g2⟩
 flat := fun t ht x c hc => zxc (zx6 (z3k t ht x) hc)
 slAgg := fun _ => rfl
 slEnc := fun _ _ => rfl
 ofTo := fun _ _ => rfl
 u8sz := rfl
 u8 := fun x => ⟨x, rfl⟩
 toInts := fun xs i x n h1 h2 => by cases h2; exact h1
 toIntsLen := fun _ => rfl
 ofInts := fun l i n h => ⟨n, h, rfl⟩
 ofIntsLen := fun _ => rfl
theorem ztr {O : List (Nat × Ct U)} {X : List (Nat × Nat)} {J : List (Nat × Amx.Spec U × List Ty)} {pre : List (Nat × List Nat)} {lits ro pk bj : List Nat} : CLaws (zpe O X J pre lits ro pk bj) :=
 z16 zje (l := z2g) rfl (by kernel_rfl)
def ctv (ps : List (Md U)) (res outs : List Ty) (fr : List Nat) (ts : List Ty) (f : Fnc U ts (PT U (res ++ outs))) : Ct U := { params := ps, results := res, outs := outs, fresh := fr, fn := app U ts f }
def cvv (res ts : List Ty) (f : Fnc U ts (PT U (res ++ []))) : Ct U := ctv (ts.map .val) res [] [] ts f
def K0 : Ctx U := zpe [] [] [] [] [] [] [] []
@[reducible] def Kq : Type := Kp K0
structure Cf where
 X : List (Nat × Nat) := []
 J : List (Nat × Amx.Spec U × List Ty) := []
 pre : List (Nat × List Nat) := []
 lits : List Nat := []
 ro : List Nat := []
 pk : List Nat := []
 bj : List Nat := []
def cxo (l : List Kq) (c : Cf) : Ctx U := zpe (Osk l) c.X c.J c.pre c.lits c.ro c.pk c.bj
theorem go (l : List Kq) (c : Cf) {f : FuncId} {fn : Func} {ps : List (Md U)} {res outs : List Ty} {fr : List Nat} {ts : List Ty} {F : Fnc U ts (PT U (res ++ outs))} (L : List (Nat × Cut U (PT U ((ctv ps res outs fr ts F).results ++ (ctv ps res outs fr ts F).outs)))) (hf : Proofs.Tryz.prog.funcs[f]? = some fn) (hn : ((fn.name == "runtime.NumGoroutine") || !fn.body.isSome) = false := by kernel_rfl)
 (hok : ztn (cxo l c) (ctv ps res outs fr ts F) = fun _ => true := by kernel_rfl) (hr : (cur ts (z1a (cxo l c) fn (ctv ps res outs fr ts F) (pick L)) : Fnc U ts (PT U (res ++ outs))) = F := by kernel_rfl) (hL : Ls (cxo l c) fn (ctv ps res outs fr ts F) (pick L) L := by exact trivial) (hX : ∀ p ∈ c.X, zq5 Proofs.Tryz.prog p := by exact zc3) : zga K0 f (ctv ps res outs fr ts F) := by
 rw [Bool.or_eq_false_iff] at hn
 exact zga.ctx (C := cxo l c) (C' := K0) rfl rfl rfl (z0f (C := cxo l c) ztr (z5d (C := cxo l c) (C0 := K0) (l := l) rfl rfl rfl rfl) (zsy (l := c.X) rfl hX) hf hn.1 (by simpa using hn.2) (z4e rfl hL) (fun y => congrFun hok y) (z3n hr))
theorem z4p : zq5 Proofs.Tryz.prog (263, 2) := z2m Proofs.Tryz.func263 (by kernel_rfl) (by kernel_rfl) (by kernel_rfl) (by kernel_rfl)
theorem z2c : zq5 Proofs.Tryz.prog (268, 0) := zzi Proofs.Tryz.func268 (by kernel_rfl) (by kernel_rfl) (by kernel_rfl) (by kernel_rfl)
theorem z4o : zq5 Proofs.Tryz.prog (276, 1) := zzh Proofs.Tryz.func276 (by kernel_rfl) (by kernel_rfl) (by kernel_rfl) (by kernel_rfl)
end
end Go.Proofs.YtmifhmfokbigiaaGreatDoor.M
