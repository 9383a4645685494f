/- The program's types, and their cells. -/
import Derived.Test.YtbmfjmakahmclaaGreatDoorA4
import Derived.Test.YtbmfjmakahmclaaGreatDoorShelf
import Derived.KernelRfl
namespace Go.Proofs.YtbmfjmakahmclaaGreatDoor.M
open Go Go.Amx
set_option linter.unusedVariables false
set_option maxRecDepth 100000
noncomputable section
structure zU where
 fields:Int
 types:Int
structure yE where
 x:Int
 y:Int
 signed:Bool
 code:Int
structure yC where
 msg:ByteArray
 addr:Int
structure zK where
 Registers:Int
 yK:Bool
 yI:Bool
structure Storage where
 Bytes:ByteArray
 Tags:List Bool
structure zN where
 Based:Bool
 Pointer:Int
 Offset:Int
structure DataType where
 Kind:Int
 Length:Int
 Scale:Int
structure Number where
 N:Int
 Scale:Int
structure zA where
 Op:Int
 R:Int
 A:Int
 B:Int
 zM:Int
 Place:zN
 From:zN
 zF:DataType
 Second:DataType
 Half:Bool
 zO:Bool
 Number:Number
 Text:ByteArray
 Other:ByteArray
 Mask:Int
 Target:Int
 Pointer:Int
 Source:Int
structure zT where
 From:Int
 To:Int
 Exception:Int
 Handler:Int
structure zH where
 Storage:Storage
 zB:List zA
 zQ:List zT
structure zD where
 Register:Int
 zF:DataType
 Offset:Int
structure zC where
 Registers:List Number
 Condition:Int
 Storage:Storage
 At:Int
 Stack:List Int
 Lines:List ByteArray
 Status:Int
 Exception:Int
 Marks:Int
 Steps:Int
structure Value where
 N:Int
 S:ByteArray
structure yA where
 Facts:List (List zD)
 Index:List Int
structure Optimization where
 Model:zK
 Before:zH
 After:zH
 Proof:yA
structure zY where
 Lines:List ByteArray
 Status:Int
 Exception:Int
 Marks:Int
 Steps:Int
 Storage:Storage
structure yD where
 Starts:List Int
structure zL where
 Name:ByteArray
 Kind:Int
 zF:DataType
 Value:Value
 Base:ByteArray
 Offset:Int
 Target:Int
structure zS where
 Op:Int
 Args:List Int
structure zX where
 From:Int
 To:Int
 Exception:Int
 Handler:Int
structure zP where
 zW:List zL
 zB:List zS
 yJ:List zX
structure zI where
 zP:zP
 layout:List Int
 code:List zA
structure zG where
 zC:zC
 code:zH
 raised:Int
structure zZ where
 Part:Int
 Index:Int
structure zR where
 R:Bool
 A:Bool
 B:Bool
 Place:Bool
 From:Bool
 Half:Bool
 Number:Bool
 zM:Bool
 Mask:Bool
 Target:Bool
 Text:Bool
 Other:Bool
 Pointer:Bool
 Source:Bool
 zF:Int
 Second:Int
structure yH where
 Below:Bool
 yL:List Int
structure Address where
 yF:Int
 Offset:Int
structure Pointer where
 Kind:Int
 Address:Address
 Authority:Int
structure yB where
 Op:Int
 zF:DataType
 Half:Bool
structure yG where
 Top:yH
 yM:List Int
structure zJ where
 e0:Int
 e1:Int
 e2:Int
 e3:Int
structure zV where
 below:Bool
 amount:zJ
 division:zJ
inductive Ty where
 | int (k:IntKind)
 | bool
 | str
 | nil
 | sl (t:Ty)
 | st (n:Nat)
@[reducible] def zaag:Nat→Type
 | 0=>zU
 | 1=>yE
 | 2=>yC
 | 3=>zK
 | 4=>Storage
 | 5=>zN
 | 6=>DataType
 | 7=>Number
 | 8=>zA
 | 9=>zT
 | 10=>zH
 | 11=>zD
 | 12=>zC
 | 13=>Value
 | 14=>yA
 | 15=>Optimization
 | 16=>zY
 | 17=>yD
 | 18=>zL
 | 19=>zS
 | 20=>zX
 | 21=>zP
 | 22=>zI
 | 23=>zG
 | 24=>zZ
 | 25=>zR
 | 26=>yH
 | 27=>Address
 | 28=>Pointer
 | 29=>yB
 | 30=>yG
 | 31=>zJ
 | 32=>zV
 | _+33=>Unit
@[reducible] def den:Ty→Type
 | .int _=>Int
 | .bool=>Bool
 | .str=>ByteArray
 | .nil=>Unit
 | .sl t=>List (den t)
 | .st n=>zaag n
def eqTy:(a b:Ty)→Option (PLift (a=b))
 | .int j,.int k=>if h:j=k then some ⟨by rw [h]⟩else none
 | .bool,.bool=>some ⟨rfl⟩
 | .str,.str=>some ⟨rfl⟩
 | .nil,.nil=>some ⟨rfl⟩
 | .sl a,.sl b=>match eqTy a b with
  | some ⟨h⟩=>some ⟨by rw [h]⟩
  | none=>none
 | .st i,.st j=>if h:i=j then some ⟨by rw [h]⟩else none
 | _,_=>none
@[reducible] def U:Uni:={Ty:=Ty,den:=den,eqTy:=eqTy}
@[reducible] def T6:Ty:=Ty.int .i64
def w6 (n:Int):Int:=IntKind.wrap .i64 n
@[reducible] def Ty.zU:Ty:= .st 0
@[reducible] def Ty.yE:Ty:= .st 1
@[reducible] def Ty.yC:Ty:= .st 2
@[reducible] def Ty.zK:Ty:= .st 3
@[reducible] def Ty.Storage:Ty:= .st 4
@[reducible] def Ty.zN:Ty:= .st 5
@[reducible] def Ty.DataType:Ty:= .st 6
@[reducible] def Ty.Number:Ty:= .st 7
@[reducible] def Ty.zA:Ty:= .st 8
@[reducible] def Ty.zT:Ty:= .st 9
@[reducible] def Ty.zH:Ty:= .st 10
@[reducible] def Ty.zD:Ty:= .st 11
@[reducible] def Ty.zC:Ty:= .st 12
@[reducible] def Ty.Value:Ty:= .st 13
@[reducible] def Ty.yA:Ty:= .st 14
@[reducible] def Ty.Optimization:Ty:= .st 15
@[reducible] def Ty.zY:Ty:= .st 16
@[reducible] def Ty.yD:Ty:= .st 17
@[reducible] def Ty.zL:Ty:= .st 18
@[reducible] def Ty.zS:Ty:= .st 19
@[reducible] def Ty.zX:Ty:= .st 20
@[reducible] def Ty.zP:Ty:= .st 21
@[reducible] def Ty.zI:Ty:= .st 22
@[reducible] def Ty.zG:Ty:= .st 23
@[reducible] def Ty.zZ:Ty:= .st 24
@[reducible] def Ty.zR:Ty:= .st 25
@[reducible] def Ty.yH:Ty:= .st 26
@[reducible] def Ty.Address:Ty:= .st 27
@[reducible] def Ty.Pointer:Ty:= .st 28
@[reducible] def Ty.yB:Ty:= .st 29
@[reducible] def Ty.yG:Ty:= .st 30
@[reducible] def Ty.zJ:Ty:= .st 31
@[reducible] def Ty.zV:Ty:= .st 32
def zch (k:IntKind):List (AV U)→Option (Int × List (AV U))
 | .sc (.int k' n)::l=>if k=k' then some (n,l)else none
 | _=>none
def zg0:List (AV U)→Option (Bool × List (AV U))
 | .sc (.bool b)::l=>some (b,l)
 | _=>none
def ztw:List (AV U)→Option (ByteArray × List (AV U))
 | .sc (.string s)::l=>some (s,l)
 | _=>none
def rNil:List (AV U)→Option (Unit × List (AV U))
 | .sc (.slice none 0 0)::l=>some ((),l)
 | _=>none
def rSl (t:Ty):List (AV U)→Option (List (den t) × List (AV U))
 | .lst t' xs::l=>(U.eqTy t' t).map fun e=>(zwo e xs,l)
 | .sc (.slice none 0 0)::l=>some ([],l)
 | _=>none
def zp3 (l:List (AV U)):Option (zU × List (AV U)):=(zch .i64 l).bind fun x0=>(zch .i64 x0.2).bind fun x1=>some (⟨x0.1,x1.1⟩,x1.2)
def zl9 (l:List (AV U)):Option (yE × List (AV U)):=(zch .i64 l).bind fun x0=>(zch .i64 x0.2).bind fun x1=>(zg0 x1.2).bind fun x2=>(zch .u8 x2.2).bind fun x3=>some (⟨x0.1,x1.1,x2.1,x3.1⟩,x3.2)
def zi1 (l:List (AV U)):Option (yC × List (AV U)):=(ztw l).bind fun x0=>(zch .u64 x0.2).bind fun x1=>some (⟨x0.1,x1.1⟩,x1.2)
def zvu (l:List (AV U)):Option (zK × List (AV U)):=(zch .i64 l).bind fun x0=>(zg0 x0.2).bind fun x1=>(zg0 x1.2).bind fun x2=>some (⟨x0.1,x1.1,x2.1⟩,x2.2)
def zp6 (l:List (AV U)):Option (Storage × List (AV U)):=(ztw l).bind fun x0=>(rSl Ty.bool x0.2).bind fun x1=>some (⟨x0.1,x1.1⟩,x1.2)
def zsd (l:List (AV U)):Option (zN × List (AV U)):=(zg0 l).bind fun x0=>(zch .i64 x0.2).bind fun x1=>(zch .i64 x1.2).bind fun x2=>some (⟨x0.1,x1.1,x2.1⟩,x2.2)
def zl2 (l:List (AV U)):Option (DataType × List (AV U)):=(zch .i64 l).bind fun x0=>(zch .i64 x0.2).bind fun x1=>(zch .i64 x1.2).bind fun x2=>some (⟨x0.1,x1.1,x2.1⟩,x2.2)
def zy2 (l:List (AV U)):Option (Number × List (AV U)):=(zch .i64 l).bind fun x0=>(zch .i64 x0.2).bind fun x1=>some (⟨x0.1,x1.1⟩,x1.2)
def zp8 (l:List (AV U)):Option (zA × List (AV U)):=(zch .i64 l).bind fun x0=>(zch .i64 x0.2).bind fun x1=>(zch .i64 x1.2).bind fun x2=>(zch .i64 x2.2).bind fun x3=>(zch .i64 x3.2).bind fun x4=>(zsd x4.2).bind fun x5=>(zsd x5.2).bind fun x6=>(zl2 x6.2).bind fun x7=>(zl2 x7.2).bind fun x8=>(zg0 x8.2).bind fun x9=>(zg0 x9.2).bind fun x10=>(zy2 x10.2).bind fun x11=>(ztw x11.2).bind fun x12=>(ztw x12.2).bind fun x13=>(zch .i64 x13.2).bind fun x14=>(zch .i64 x14.2).bind fun x15=>(zch .i64 x15.2).bind fun x16=>(zch .i64 x16.2).bind fun x17=>some (⟨x0.1,x1.1,x2.1,x3.1,x4.1,x5.1,x6.1,x7.1,x8.1,x9.1,x10.1,x11.1,x12.1,x13.1,x14.1,x15.1,x16.1,x17.1⟩,x17.2)
def z20 (l:List (AV U)):Option (zT × List (AV U)):=(zch .i64 l).bind fun x0=>(zch .i64 x0.2).bind fun x1=>(zch .i64 x1.2).bind fun x2=>(zch .i64 x2.2).bind fun x3=>some (⟨x0.1,x1.1,x2.1,x3.1⟩,x3.2)
def zr5 (l:List (AV U)):Option (zH × List (AV U)):=(zp6 l).bind fun x0=>(rSl Ty.zA x0.2).bind fun x1=>(rSl Ty.zT x1.2).bind fun x2=>some (⟨x0.1,x1.1,x2.1⟩,x2.2)
def z21 (l:List (AV U)):Option (zD × List (AV U)):=(zch .i64 l).bind fun x0=>(zl2 x0.2).bind fun x1=>(zch .i64 x1.2).bind fun x2=>some (⟨x0.1,x1.1,x2.1⟩,x2.2)
def zvs (l:List (AV U)):Option (zC × List (AV U)):=(rSl Ty.Number l).bind fun x0=>(zch .i64 x0.2).bind fun x1=>(zp6 x1.2).bind fun x2=>(zch .i64 x2.2).bind fun x3=>(rSl (Ty.int .i64) x3.2).bind fun x4=>(rSl Ty.str x4.2).bind fun x5=>(zch .i64 x5.2).bind fun x6=>(zch .i64 x6.2).bind fun x7=>(zch .i64 x7.2).bind fun x8=>(zch .i64 x8.2).bind fun x9=>some (⟨x0.1,x1.1,x2.1,x3.1,x4.1,x5.1,x6.1,x7.1,x8.1,x9.1⟩,x9.2)
def z1v (l:List (AV U)):Option (Value × List (AV U)):=(zch .i64 l).bind fun x0=>(ztw x0.2).bind fun x1=>some (⟨x0.1,x1.1⟩,x1.2)
def zvt (l:List (AV U)):Option (yA × List (AV U)):=(rSl (Ty.sl Ty.zD) l).bind fun x0=>(rSl (Ty.int .i64) x0.2).bind fun x1=>some (⟨x0.1,x1.1⟩,x1.2)
def zre (l:List (AV U)):Option (Optimization × List (AV U)):=(zvu l).bind fun x0=>(zr5 x0.2).bind fun x1=>(zr5 x1.2).bind fun x2=>(zvt x2.2).bind fun x3=>some (⟨x0.1,x1.1,x2.1,x3.1⟩,x3.2)
def zxu (l:List (AV U)):Option (zY × List (AV U)):=(rSl Ty.str l).bind fun x0=>(zch .i64 x0.2).bind fun x1=>(zch .i64 x1.2).bind fun x2=>(zch .i64 x2.2).bind fun x3=>(zch .i64 x3.2).bind fun x4=>(zp6 x4.2).bind fun x5=>some (⟨x0.1,x1.1,x2.1,x3.1,x4.1,x5.1⟩,x5.2)
def z6e (l:List (AV U)):Option (yD × List (AV U)):=(rSl (Ty.int .i64) l).bind fun x0=>some (⟨x0.1⟩,x0.2)
def zvq (l:List (AV U)):Option (zL × List (AV U)):=(ztw l).bind fun x0=>(zch .i64 x0.2).bind fun x1=>(zl2 x1.2).bind fun x2=>(z1v x2.2).bind fun x3=>(ztw x3.2).bind fun x4=>(zch .i64 x4.2).bind fun x5=>(zch .i64 x5.2).bind fun x6=>some (⟨x0.1,x1.1,x2.1,x3.1,x4.1,x5.1,x6.1⟩,x6.2)
def zp7 (l:List (AV U)):Option (zS × List (AV U)):=(zch .i64 l).bind fun x0=>(rSl (Ty.int .i64) x0.2).bind fun x1=>some (⟨x0.1,x1.1⟩,x1.2)
def zvr (l:List (AV U)):Option (zX × List (AV U)):=(zch .i64 l).bind fun x0=>(zch .i64 x0.2).bind fun x1=>(zch .i64 x1.2).bind fun x2=>(zch .i64 x2.2).bind fun x3=>some (⟨x0.1,x1.1,x2.1,x3.1⟩,x3.2)
def zrt (l:List (AV U)):Option (zP × List (AV U)):=(rSl Ty.zL l).bind fun x0=>(rSl Ty.zS x0.2).bind fun x1=>(rSl Ty.zX x1.2).bind fun x2=>some (⟨x0.1,x1.1,x2.1⟩,x2.2)
def zls (l:List (AV U)):Option (zI × List (AV U)):=(zrt l).bind fun x0=>(rSl (Ty.int .i64) x0.2).bind fun x1=>(rSl Ty.zA x1.2).bind fun x2=>some (⟨x0.1,x1.1,x2.1⟩,x2.2)
def zn4 (l:List (AV U)):Option (zG × List (AV U)):=(zvs l).bind fun x0=>(zr5 x0.2).bind fun x1=>(zch .i64 x1.2).bind fun x2=>some (⟨x0.1,x1.1,x2.1⟩,x2.2)
def z0i (l:List (AV U)):Option (zZ × List (AV U)):=(zch .i64 l).bind fun x0=>(zch .i64 x0.2).bind fun x1=>some (⟨x0.1,x1.1⟩,x1.2)
def zrd (l:List (AV U)):Option (zR × List (AV U)):=(zg0 l).bind fun x0=>(zg0 x0.2).bind fun x1=>(zg0 x1.2).bind fun x2=>(zg0 x2.2).bind fun x3=>(zg0 x3.2).bind fun x4=>(zg0 x4.2).bind fun x5=>(zg0 x5.2).bind fun x6=>(zg0 x6.2).bind fun x7=>(zg0 x7.2).bind fun x8=>(zg0 x8.2).bind fun x9=>(zg0 x9.2).bind fun x10=>(zg0 x10.2).bind fun x11=>(zg0 x11.2).bind fun x12=>(zg0 x12.2).bind fun x13=>(zch .i64 x13.2).bind fun x14=>(zch .i64 x14.2).bind fun x15=>some (⟨x0.1,x1.1,x2.1,x3.1,x4.1,x5.1,x6.1,x7.1,x8.1,x9.1,x10.1,x11.1,x12.1,x13.1,x14.1,x15.1⟩,x15.2)
def zqn (l:List (AV U)):Option (yH × List (AV U)):=(zg0 l).bind fun x0=>(rSl (Ty.int .i64) x0.2).bind fun x1=>some (⟨x0.1,x1.1⟩,x1.2)
def zvv (l:List (AV U)):Option (Address × List (AV U)):=(zch .i64 l).bind fun x0=>(zch .i64 x0.2).bind fun x1=>some (⟨x0.1,x1.1⟩,x1.2)
def z0h (l:List (AV U)):Option (Pointer × List (AV U)):=(zch .i64 l).bind fun x0=>(zvv x0.2).bind fun x1=>(zch .i64 x1.2).bind fun x2=>some (⟨x0.1,x1.1,x2.1⟩,x2.2)
def zp0 (l:List (AV U)):Option (yB × List (AV U)):=(zch .i64 l).bind fun x0=>(zl2 x0.2).bind fun x1=>(zg0 x1.2).bind fun x2=>some (⟨x0.1,x1.1,x2.1⟩,x2.2)
def zpc (l:List (AV U)):Option (yG × List (AV U)):=(zqn l).bind fun x0=>(rSl (Ty.int .i64) x0.2).bind fun x1=>some (⟨x0.1,x1.1⟩,x1.2)
def zuk (l:List (AV U)):Option (zJ × List (AV U)):=(zch .u64 l).bind fun x0=>(zch .u64 x0.2).bind fun x1=>(zch .u64 x1.2).bind fun x2=>(zch .u64 x2.2).bind fun x3=>some (⟨x0.1,x1.1,x2.1,x3.1⟩,x3.2)
def zn3 (l:List (AV U)):Option (zV × List (AV U)):=(zg0 l).bind fun x0=>(zuk x0.2).bind fun x1=>(zuk x1.2).bind fun x2=>some (⟨x0.1,x1.1,x2.1⟩,x2.2)
def zuv (x:zU):List (AV U):=[.sc (.int .i64 x.fields),.sc (.int .i64 x.types)]
def zpt (x:yE):List (AV U):=[.sc (.int .i64 x.x),.sc (.int .i64 x.y),.sc (.bool x.signed),.sc (.int .u8 x.code)]
def zl4 (x:yC):List (AV U):=[.sc (.string x.msg),.sc (.int .u64 x.addr)]
def z7v (x:zK):List (AV U):=[.sc (.int .i64 x.Registers),.sc (.bool x.yK),.sc (.bool x.yI)]
def z7p (x:Storage):List (AV U):=[.sc (.string x.Bytes),.lst Ty.bool x.Tags]
def z7u (x:zN):List (AV U):=[.sc (.bool x.Based),.sc (.int .i64 x.Pointer),.sc (.int .i64 x.Offset)]
def z4g (x:DataType):List (AV U):=[.sc (.int .i64 x.Kind),.sc (.int .i64 x.Length),.sc (.int .i64 x.Scale)]
def z9p (x:Number):List (AV U):=[.sc (.int .i64 x.N),.sc (.int .i64 x.Scale)]
def zj4 (x:zA):List (AV U):=[.sc (.int .i64 x.Op),.sc (.int .i64 x.R),.sc (.int .i64 x.A),.sc (.int .i64 x.B),.sc (.int .i64 x.zM),.sc (.bool x.Place.Based),.sc (.int .i64 x.Place.Pointer),.sc (.int .i64 x.Place.Offset),.sc (.bool x.From.Based),.sc (.int .i64 x.From.Pointer),.sc (.int .i64 x.From.Offset),.sc (.int .i64 x.zF.Kind),.sc (.int .i64 x.zF.Length),.sc (.int .i64 x.zF.Scale),.sc (.int .i64 x.Second.Kind),.sc (.int .i64 x.Second.Length),.sc (.int .i64 x.Second.Scale),.sc (.bool x.Half),.sc (.bool x.zO),.sc (.int .i64 x.Number.N),.sc (.int .i64 x.Number.Scale),.sc (.string x.Text),.sc (.string x.Other),.sc (.int .i64 x.Mask),.sc (.int .i64 x.Target),.sc (.int .i64 x.Pointer),.sc (.int .i64 x.Source)]
def z9q (x:zT):List (AV U):=[.sc (.int .i64 x.From),.sc (.int .i64 x.To),.sc (.int .i64 x.Exception),.sc (.int .i64 x.Handler)]
def zje (x:zH):List (AV U):=[.sc (.string x.Storage.Bytes),.lst Ty.bool x.Storage.Tags,.lst Ty.zA x.zB,.lst Ty.zT x.zQ]
def zuy (x:zD):List (AV U):=[.sc (.int .i64 x.Register),.sc (.int .i64 x.zF.Kind),.sc (.int .i64 x.zF.Length),.sc (.int .i64 x.zF.Scale),.sc (.int .i64 x.Offset)]
def z7s (x:zC):List (AV U):=[.lst Ty.Number x.Registers,.sc (.int .i64 x.Condition),.sc (.string x.Storage.Bytes),.lst Ty.bool x.Storage.Tags,.sc (.int .i64 x.At),.lst (Ty.int .i64) x.Stack,.lst Ty.str x.Lines,.sc (.int .i64 x.Status),.sc (.int .i64 x.Exception),.sc (.int .i64 x.Marks),.sc (.int .i64 x.Steps)]
def zadd (x:Value):List (AV U):=[.sc (.int .i64 x.N),.sc (.string x.S)]
def z7t (x:yA):List (AV U):=[.lst (Ty.sl Ty.zD) x.Facts,.lst (Ty.int .i64) x.Index]
def zok (x:Optimization):List (AV U):=[.sc (.int .i64 x.Model.Registers),.sc (.bool x.Model.yK),.sc (.bool x.Model.yI),.sc (.string x.Before.Storage.Bytes),.lst Ty.bool x.Before.Storage.Tags,.lst Ty.zA x.Before.zB,.lst Ty.zT x.Before.zQ,.sc (.string x.After.Storage.Bytes),.lst Ty.bool x.After.Storage.Tags,.lst Ty.zA x.After.zB,.lst Ty.zT x.After.zQ,.lst (Ty.sl Ty.zD) x.Proof.Facts,.lst (Ty.int .i64) x.Proof.Index]
def z4f (x:zY):List (AV U):=[.lst Ty.str x.Lines,.sc (.int .i64 x.Status),.sc (.int .i64 x.Exception),.sc (.int .i64 x.Marks),.sc (.int .i64 x.Steps),.sc (.string x.Storage.Bytes),.lst Ty.bool x.Storage.Tags]
def zade (x:yD):List (AV U):=[.lst (Ty.int .i64) x.Starts]
def z2g (x:zL):List (AV U):=[.sc (.string x.Name),.sc (.int .i64 x.Kind),.sc (.int .i64 x.zF.Kind),.sc (.int .i64 x.zF.Length),.sc (.int .i64 x.zF.Scale),.sc (.int .i64 x.Value.N),.sc (.string x.Value.S),.sc (.string x.Base),.sc (.int .i64 x.Offset),.sc (.int .i64 x.Target)]
def zux (x:zS):List (AV U):=[.sc (.int .i64 x.Op),.lst (Ty.int .i64) x.Args]
def z2h (x:zX):List (AV U):=[.sc (.int .i64 x.From),.sc (.int .i64 x.To),.sc (.int .i64 x.Exception),.sc (.int .i64 x.Handler)]
def z2f (x:zP):List (AV U):=[.lst Ty.zL x.zW,.lst Ty.zS x.zB,.lst Ty.zX x.yJ]
def zo6 (x:zI):List (AV U):=[.lst Ty.zL x.zP.zW,.lst Ty.zS x.zP.zB,.lst Ty.zX x.zP.yJ,.lst (Ty.int .i64) x.layout,.lst Ty.zA x.code]
def zrl (x:zG):List (AV U):=[.lst Ty.Number x.zC.Registers,.sc (.int .i64 x.zC.Condition),.sc (.string x.zC.Storage.Bytes),.lst Ty.bool x.zC.Storage.Tags,.sc (.int .i64 x.zC.At),.lst (Ty.int .i64) x.zC.Stack,.lst Ty.str x.zC.Lines,.sc (.int .i64 x.zC.Status),.sc (.int .i64 x.zC.Exception),.sc (.int .i64 x.zC.Marks),.sc (.int .i64 x.zC.Steps),.sc (.string x.code.Storage.Bytes),.lst Ty.bool x.code.Storage.Tags,.lst Ty.zA x.code.zB,.lst Ty.zT x.code.zQ,.sc (.int .i64 x.raised)]
def z7r (x:zZ):List (AV U):=[.sc (.int .i64 x.Part),.sc (.int .i64 x.Index)]
def zw3 (x:zR):List (AV U):=[.sc (.bool x.R),.sc (.bool x.A),.sc (.bool x.B),.sc (.bool x.Place),.sc (.bool x.From),.sc (.bool x.Half),.sc (.bool x.Number),.sc (.bool x.zM),.sc (.bool x.Mask),.sc (.bool x.Target),.sc (.bool x.Text),.sc (.bool x.Other),.sc (.bool x.Pointer),.sc (.bool x.Source),.sc (.int .i64 x.zF),.sc (.int .i64 x.Second)]
def zzt (x:yH):List (AV U):=[.sc (.bool x.Below),.lst (Ty.int .i64) x.yL]
def z7w (x:Address):List (AV U):=[.sc (.int .i64 x.yF),.sc (.int .i64 x.Offset)]
def z7q (x:Pointer):List (AV U):=[.sc (.int .i64 x.Kind),.sc (.int .i64 x.Address.yF),.sc (.int .i64 x.Address.Offset),.sc (.int .i64 x.Authority)]
def zuu (x:yB):List (AV U):=[.sc (.int .i64 x.Op),.sc (.int .i64 x.zF.Kind),.sc (.int .i64 x.zF.Length),.sc (.int .i64 x.zF.Scale),.sc (.bool x.Half)]
def zte (x:yG):List (AV U):=[.sc (.bool x.Top.Below),.lst (Ty.int .i64) x.Top.yL,.lst (Ty.int .i64) x.yM]
def z9r (x:zJ):List (AV U):=[.sc (.int .u64 x.e0),.sc (.int .u64 x.e1),.sc (.int .u64 x.e2),.sc (.int .u64 x.e3)]
def zrk (x:zV):List (AV U):=[.sc (.bool x.below),.sc (.int .u64 x.amount.e0),.sc (.int .u64 x.amount.e1),.sc (.int .u64 x.amount.e2),.sc (.int .u64 x.amount.e3),.sc (.int .u64 x.division.e0),.sc (.int .u64 x.division.e1),.sc (.int .u64 x.division.e2),.sc (.int .u64 x.division.e3)]
def zam0:(n:Nat)→zaag n→List (AV U)
 | 0,x=>zuv x
 | 1,x=>zpt x
 | 2,x=>zl4 x
 | 3,x=>z7v x
 | 4,x=>z7p x
 | 5,x=>z7u x
 | 6,x=>z4g x
 | 7,x=>z9p x
 | 8,x=>zj4 x
 | 9,x=>z9q x
 | 10,x=>zje x
 | 11,x=>zuy x
 | 12,x=>z7s x
 | 13,x=>zadd x
 | 14,x=>z7t x
 | 15,x=>zok x
 | 16,x=>z4f x
 | 17,x=>zade x
 | 18,x=>z2g x
 | 19,x=>zux x
 | 20,x=>z2h x
 | 21,x=>z2f x
 | 22,x=>zo6 x
 | 23,x=>zrl x
 | 24,x=>z7r x
 | 25,x=>zw3 x
 | 26,x=>zzt x
 | 27,x=>z7w x
 | 28,x=>z7q x
 | 29,x=>zuu x
 | 30,x=>zte x
 | 31,x=>z9r x
 | 32,x=>zrk x
 | _+33,_=>[.sc (.bool true)]
def rdSt:(n:Nat)→List (AV U)→Option (zaag n × List (AV U))
 | 0,l=>zp3 l
 | 1,l=>zl9 l
 | 2,l=>zi1 l
 | 3,l=>zvu l
 | 4,l=>zp6 l
 | 5,l=>zsd l
 | 6,l=>zl2 l
 | 7,l=>zy2 l
 | 8,l=>zp8 l
 | 9,l=>z20 l
 | 10,l=>zr5 l
 | 11,l=>z21 l
 | 12,l=>zvs l
 | 13,l=>z1v l
 | 14,l=>zvt l
 | 15,l=>zre l
 | 16,l=>zxu l
 | 17,l=>z6e l
 | 18,l=>zvq l
 | 19,l=>zp7 l
 | 20,l=>zvr l
 | 21,l=>zrt l
 | 22,l=>zls l
 | 23,l=>zn4 l
 | 24,l=>z0i l
 | 25,l=>zrd l
 | 26,l=>zqn l
 | 27,l=>zvv l
 | 28,l=>z0h l
 | 29,l=>zp0 l
 | 30,l=>zpc l
 | 31,l=>zuk l
 | 32,l=>zn3 l
 | _+33,_=>none
def enc:(t:Ty)→den t→List (AV U)
 | .int k,n=>[.sc (.int k n)]
 | .bool,b=>[.sc (.bool b)]
 | .str,s=>[.sc (.string s)]
 | .nil,_=>[.sc (.slice none 0 0)]
 | .sl t,xs=>[.lst t xs]
 | .st n,x=>zam0 n x
def rd:(t:Ty)→List (AV U)→Option (den t × List (AV U))
 | .int k,l=>zch k l
 | .bool,l=>zg0 l
 | .str,l=>ztw l
 | .nil,l=>rNil l
 | .sl t,l=>rSl t l
 | .st n,l=>rdSt n l
def reify (t:Ty) (l:List (AV U)):Option (den t):=(rd t l).bind fun r=>match r.2 with
 | []=>some r.1
 | _=>none
def szSt:Nat→Nat
 | 0=>2
 | 1=>4
 | 2=>2
 | 3=>3
 | 4=>2
 | 5=>3
 | 6=>3
 | 7=>2
 | 8=>27
 | 9=>4
 | 10=>4
 | 11=>5
 | 12=>11
 | 13=>2
 | 14=>2
 | 15=>13
 | 16=>7
 | 17=>1
 | 18=>10
 | 19=>2
 | 20=>4
 | 21=>3
 | 22=>5
 | 23=>16
 | 24=>2
 | 25=>16
 | 26=>2
 | 27=>2
 | 28=>4
 | 29=>5
 | 30=>3
 | 31=>4
 | 32=>9
 | _+33=>1
def zajt:Nat→Bool
 | 0=>true
 | 1=>true
 | 2=>true
 | 3=>true
 | 4=>false
 | 5=>true
 | 6=>true
 | 7=>true
 | 8=>true
 | 9=>true
 | 10=>false
 | 11=>true
 | 12=>false
 | 13=>true
 | 14=>false
 | 15=>false
 | 16=>false
 | 17=>false
 | 18=>true
 | 19=>false
 | 20=>true
 | 21=>false
 | 22=>false
 | 23=>false
 | 24=>true
 | 25=>true
 | 26=>false
 | 27=>true
 | 28=>true
 | 29=>true
 | 30=>false
 | 31=>true
 | 32=>true
 | _+33=>true
def szT:Ty→Nat
 | .st n=>szSt n
 | _=>1
def aggT:Ty→Bool
 | .st _=>true
 | _=>false
def zafz:Ty→Bool
 | .sl _=>false
 | .st n=>zajt n
 | _=>true
def zafv:List (Nat × Ty):=[(2,(Ty.int .i64)),(3,(Ty.int .i64)),(4,Ty.bool),(5,(Ty.int .u8)),(6,(Ty.int .u8)),(8,Ty.yE),(9,Ty.str),(10,Ty.str),(11,Ty.str),(12,(Ty.int .u64)),(14,Ty.yC),(21,(Ty.int .i32)),(23,Ty.zK),(24,(Ty.sl Ty.bool)),(26,Ty.Storage),(27,(Ty.sl Ty.zA)),(28,(Ty.sl Ty.zT)),(30,Ty.zH),(34,(Ty.sl (Ty.sl Ty.zD))),(35,(Ty.int .i64)),(39,(Ty.sl Ty.Number)),(40,(Ty.sl (Ty.int .i64))),(41,(Ty.sl Ty.str)),(43,Ty.zC),(45,(Ty.sl Ty.zD)),(47,Ty.DataType),(49,Ty.zD),(54,Ty.Number),(56,Ty.Value),(62,Ty.yA),(64,Ty.Optimization),(70,Ty.zY),(79,Ty.yD),(82,(Ty.sl Ty.zL)),(83,(Ty.sl Ty.zS)),(84,(Ty.sl Ty.zX)),(86,Ty.zP),(89,Ty.zN),(91,Ty.zA),(116,Ty.zT),(137,Ty.zI),(139,Ty.zS),(144,Ty.zL),(163,(Ty.sl (Ty.int .i64))),(174,Ty.zG),(176,(Ty.sl (Ty.int .u8))),(178,Ty.zZ),(190,Ty.zX),(193,Ty.zR),(210,Ty.yH),(220,Ty.Address),(222,Ty.Pointer),(235,Ty.yB),(262,Ty.zU),(279,Ty.yG),(310,(Ty.int .u64)),(348,(Ty.int .u64)),(349,Ty.zJ),(350,Ty.zJ),(352,Ty.zV),(360,(Ty.int .u32)),(370,(Ty.int .i8)),(385,(Ty.int .i64)),(395,(Ty.sl (Ty.sl (Ty.int .u8)))),(398,(Ty.int .u64)),(418,(Ty.int .u8)),(419,(Ty.int .u8)),(421,(Ty.int .i32)),(422,(Ty.int .i32))]
def En:Enc U:={sz:=szT,agg:=aggT,flat:=zafz,enc:=enc,reify:=reify,ofGo:=pick zafv,sl:=Ty.sl,toSl:=fun _ xs=>xs,ofSl:=fun _ xs=>xs,u8:= .int .u8,ofInts:=fun l=>l,toInts:=fun l=>l}
def zaa6:List (List Int):=[[0,4],[2,3],[2,3,3],[2,3,3],[2,3,3],[2,3,3],[2,3,3],[1,4,6],[1,4,6],[6],[5,0],[5,5],[5,3],[6],[],[3],[2],[1],[]]
def zaa7:List zU:=[⟨41,1⟩,⟨169,1⟩,⟨257,0⟩,⟨3,0⟩,⟨32807,1⟩,⟨6,0⟩,⟨6144,0⟩,⟨6150,0⟩,⟨4096,0⟩,⟨120,2⟩,⟨552,2⟩,⟨120,2⟩,⟨552,2⟩,⟨1536,0⟩,⟨8232,3⟩,⟨24576,0⟩,⟨8193,0⟩,⟨8192,0⟩,⟨4096,0⟩,⟨0,0⟩,⟨1,0⟩,⟨1,0⟩,⟨1,0⟩,⟨40,2⟩,⟨512,0⟩,⟨0,0⟩,⟨0,0⟩]
def zafx:List Int:=[1,10,100,1000,10000,100000,1000000,10000000,100000000,1000000000,10000000000,100000000000,1000000000000,10000000000000,100000000000000,1000000000000000,10000000000000000,100000000000000000,1000000000000000000,10000000000000000000]
def zamh:List Int:=[0,1,28,2,29,14,24,3,30,22,20,15,25,17,4,8,31,27,13,23,21,19,16,7,26,12,18,6,11,5,10,9]
def zamg:List Int:=[0,1,56,2,57,49,28,3,61,58,42,50,38,29,17,4,62,47,59,36,45,43,51,22,53,39,33,30,24,18,12,5,63,55,48,27,60,41,37,16,46,35,44,21,52,32,23,11,54,26,40,15,34,20,31,10,25,14,19,9,13,8,7,6]
def globs:List (Nat × AV U):=[(0,.rarr (Ty.sl (Ty.int .i64)) zaa6),(1,.rarr Ty.zU zaa7),(3,.rarr (Ty.int .u64) zafx),(4,.rarr (Ty.int .u8) zamh),(5,.rarr (Ty.int .u8) zamg)]
def zpo (O:List (Nat × Ct U)) (X:List (Nat × Nat)) (J:List (Nat × Amx.Spec U × List Ty)) (pre:List (Nat × List Nat)) (lits ro pk bj:List Nat):Ctx U:=
 {P:=Proofs.Tryz.prog,En:=En,G:=pick globs,O:=pick O,X:=pick X,joins:=pick J,pre:=fun r=>(pick pre r).getD [],lits:=lits,ro:=ro,pk:=pk,bj:=bj}
theorem zav (k:IntKind):Sp (U:=U) (zch k) (fun n:Int=>[.sc (.int k n)]):=fun l x r h=>by
 unfold zch at h
 split at h
 · split at h
   · rename_i e;cases h;subst e;exact⟨[_],rfl,F2.refl_ref _⟩
   · cases h
 · cases h
theorem zev:Sp (U:=U) zg0 (fun b:Bool=>[.sc (.bool b)]):=fun l x r h=>by
 unfold zg0 at h
 split at h
 · cases h;exact⟨[_],rfl,F2.refl_ref _⟩
 · cases h
theorem zq1:Sp (U:=U) ztw (fun s:ByteArray=>[.sc (.string s)]):=fun l x r h=>by
 unfold ztw at h
 split at h
 · cases h;exact⟨[_],rfl,F2.refl_ref _⟩
 · cases h
theorem zaiu:Sp (U:=U) rNil (fun _:Unit=>[.sc (.slice none 0 0)]):=fun l x r h=>by
 unfold rNil at h
 split at h
 · cases h;exact⟨[_],rfl,F2.refl_ref _⟩
 · cases h
theorem zjk (t:Ty):Sp (U:=U) (rSl t) (fun xs:List (den t)=>[.lst t xs]):=fun l x r h=>by
 unfold rSl at h
 split at h
 · rw [Option.map_eq_some_iff]at h;obtain⟨⟨e⟩,_,h2⟩:=h;cases e;cases h2;exact⟨[_],rfl,F2.refl_ref _⟩
 · cases h;exact⟨[_],rfl,.cons (.inr ⟨rfl,_,rfl⟩) .nil⟩
 · cases h
theorem zz4:Sp (U:=U) zp3 zuv:=fun l x r h=>by
 unfold zp3 at h
 obtain⟨x0,r0,p0,e0,f0,h⟩:=(zav .i64).step h
 obtain⟨x1,r1,p1,(e1:r0=p1++r1),f1,h⟩:=(zav .i64).step h
 cases h
 exact⟨(p0++p1),by rw [e0,e1];simp only [List.append_assoc],(f0.append f1)⟩
theorem ztq:Sp (U:=U) zl9 zpt:=fun l x r h=>by
 unfold zl9 at h
 obtain⟨x0,r0,p0,e0,f0,h⟩:=(zav .i64).step h
 obtain⟨x1,r1,p1,(e1:r0=p1++r1),f1,h⟩:=(zav .i64).step h
 obtain⟨x2,r2,p2,(e2:r1=p2++r2),f2,h⟩:=zev.step h
 obtain⟨x3,r3,p3,(e3:r2=p3++r3),f3,h⟩:=(zav .u8).step h
 cases h
 exact⟨(p0++(p1++(p2++p3))),by rw [e0,e1,e2,e3];simp only [List.append_assoc],(f0.append (f1.append (f2.append f3)))⟩
theorem zpx:Sp (U:=U) zi1 zl4:=fun l x r h=>by
 unfold zi1 at h
 obtain⟨x0,r0,p0,e0,f0,h⟩:=zq1.step h
 obtain⟨x1,r1,p1,(e1:r0=p1++r1),f1,h⟩:=(zav .u64).step h
 cases h
 exact⟨(p0++p1),by rw [e0,e1];simp only [List.append_assoc],(f0.append f1)⟩
theorem z1h:Sp (U:=U) zvu z7v:=fun l x r h=>by
 unfold zvu at h
 obtain⟨x0,r0,p0,e0,f0,h⟩:=(zav .i64).step h
 obtain⟨x1,r1,p1,(e1:r0=p1++r1),f1,h⟩:=zev.step h
 obtain⟨x2,r2,p2,(e2:r1=p2++r2),f2,h⟩:=zev.step h
 cases h
 exact⟨(p0++(p1++p2)),by rw [e0,e1,e2];simp only [List.append_assoc],(f0.append (f1.append f2))⟩
theorem zrq:Sp (U:=U) zp6 z7p:=fun l x r h=>by
 unfold zp6 at h
 obtain⟨x0,r0,p0,e0,f0,h⟩:=zq1.step h
 obtain⟨x1,r1,p1,(e1:r0=p1++r1),f1,h⟩:=(zjk Ty.bool).step h
 cases h
 exact⟨(p0++p1),by rw [e0,e1];simp only [List.append_assoc],(f0.append f1)⟩
theorem zvg:Sp (U:=U) zsd z7u:=fun l x r h=>by
 unfold zsd at h
 obtain⟨x0,r0,p0,e0,f0,h⟩:=zev.step h
 obtain⟨x1,r1,p1,(e1:r0=p1++r1),f1,h⟩:=(zav .i64).step h
 obtain⟨x2,r2,p2,(e2:r1=p2++r2),f2,h⟩:=(zav .i64).step h
 cases h
 exact⟨(p0++(p1++p2)),by rw [e0,e1,e2];simp only [List.append_assoc],(f0.append (f1.append f2))⟩
theorem zmq:Sp (U:=U) zl2 z4g:=fun l x r h=>by
 unfold zl2 at h
 obtain⟨x0,r0,p0,e0,f0,h⟩:=(zav .i64).step h
 obtain⟨x1,r1,p1,(e1:r0=p1++r1),f1,h⟩:=(zav .i64).step h
 obtain⟨x2,r2,p2,(e2:r1=p2++r2),f2,h⟩:=(zav .i64).step h
 cases h
 exact⟨(p0++(p1++p2)),by rw [e0,e1,e2];simp only [List.append_assoc],(f0.append (f1.append f2))⟩
theorem z3t:Sp (U:=U) zy2 z9p:=fun l x r h=>by
 unfold zy2 at h
 obtain⟨x0,r0,p0,e0,f0,h⟩:=(zav .i64).step h
 obtain⟨x1,r1,p1,(e1:r0=p1++r1),f1,h⟩:=(zav .i64).step h
 cases h
 exact⟨(p0++p1),by rw [e0,e1];simp only [List.append_assoc],(f0.append f1)⟩
theorem zz6:Sp (U:=U) zp8 zj4:=fun l x r h=>by
 unfold zp8 at h
 obtain⟨x0,r0,p0,e0,f0,h⟩:=(zav .i64).step h
 obtain⟨x1,r1,p1,(e1:r0=p1++r1),f1,h⟩:=(zav .i64).step h
 obtain⟨x2,r2,p2,(e2:r1=p2++r2),f2,h⟩:=(zav .i64).step h
 obtain⟨x3,r3,p3,(e3:r2=p3++r3),f3,h⟩:=(zav .i64).step h
 obtain⟨x4,r4,p4,(e4:r3=p4++r4),f4,h⟩:=(zav .i64).step h
 obtain⟨x5,r5,p5,(e5:r4=p5++r5),f5,h⟩:=zvg.step h
 obtain⟨x6,r6,p6,(e6:r5=p6++r6),f6,h⟩:=zvg.step h
 obtain⟨x7,r7,p7,(e7:r6=p7++r7),f7,h⟩:=zmq.step h
 obtain⟨x8,r8,p8,(e8:r7=p8++r8),f8,h⟩:=zmq.step h
 obtain⟨x9,r9,p9,(e9:r8=p9++r9),f9,h⟩:=zev.step h
 obtain⟨x10,r10,p10,(e10:r9=p10++r10),f10,h⟩:=zev.step h
 obtain⟨x11,r11,p11,(e11:r10=p11++r11),f11,h⟩:=z3t.step h
 obtain⟨x12,r12,p12,(e12:r11=p12++r12),f12,h⟩:=zq1.step h
 obtain⟨x13,r13,p13,(e13:r12=p13++r13),f13,h⟩:=zq1.step h
 obtain⟨x14,r14,p14,(e14:r13=p14++r14),f14,h⟩:=(zav .i64).step h
 obtain⟨x15,r15,p15,(e15:r14=p15++r15),f15,h⟩:=(zav .i64).step h
 obtain⟨x16,r16,p16,(e16:r15=p16++r16),f16,h⟩:=(zav .i64).step h
 obtain⟨x17,r17,p17,(e17:r16=p17++r17),f17,h⟩:=(zav .i64).step h
 cases h
 exact⟨(p0++(p1++(p2++(p3++(p4++(p5++(p6++(p7++(p8++(p9++(p10++(p11++(p12++(p13++(p14++(p15++(p16++p17))))))))))))))))),by rw [e0,e1,e2,e3,e4,e5,e6,e7,e8,e9,e10,e11,e12,e13,e14,e15,e16,e17];simp only [List.append_assoc],(f0.append (f1.append (f2.append (f3.append (f4.append (f5.append (f6.append (f7.append (f8.append (f9.append (f10.append (f11.append (f12.append (f13.append (f14.append (f15.append (f16.append f17)))))))))))))))))⟩
theorem zab6:Sp (U:=U) z20 z9q:=fun l x r h=>by
 unfold z20 at h
 obtain⟨x0,r0,p0,e0,f0,h⟩:=(zav .i64).step h
 obtain⟨x1,r1,p1,(e1:r0=p1++r1),f1,h⟩:=(zav .i64).step h
 obtain⟨x2,r2,p2,(e2:r1=p2++r2),f2,h⟩:=(zav .i64).step h
 obtain⟨x3,r3,p3,(e3:r2=p3++r3),f3,h⟩:=(zav .i64).step h
 cases h
 exact⟨(p0++(p1++(p2++p3))),by rw [e0,e1,e2,e3];simp only [List.append_assoc],(f0.append (f1.append (f2.append f3)))⟩
theorem zsz:Sp (U:=U) zr5 zje:=fun l x r h=>by
 unfold zr5 at h
 obtain⟨x0,r0,p0,e0,f0,h⟩:=zrq.step h
 obtain⟨x1,r1,p1,(e1:r0=p1++r1),f1,h⟩:=(zjk Ty.zA).step h
 obtain⟨x2,r2,p2,(e2:r1=p2++r2),f2,h⟩:=(zjk Ty.zT).step h
 cases h
 exact⟨(p0++(p1++p2)),by rw [e0,e1,e2];simp only [List.append_assoc],(f0.append (f1.append f2))⟩
theorem zab7:Sp (U:=U) z21 zuy:=fun l x r h=>by
 unfold z21 at h
 obtain⟨x0,r0,p0,e0,f0,h⟩:=(zav .i64).step h
 obtain⟨x1,r1,p1,(e1:r0=p1++r1),f1,h⟩:=zmq.step h
 obtain⟨x2,r2,p2,(e2:r1=p2++r2),f2,h⟩:=(zav .i64).step h
 cases h
 exact⟨(p0++(p1++p2)),by rw [e0,e1,e2];simp only [List.append_assoc],(f0.append (f1.append f2))⟩
theorem z1f:Sp (U:=U) zvs z7s:=fun l x r h=>by
 unfold zvs at h
 obtain⟨x0,r0,p0,e0,f0,h⟩:=(zjk Ty.Number).step h
 obtain⟨x1,r1,p1,(e1:r0=p1++r1),f1,h⟩:=(zav .i64).step h
 obtain⟨x2,r2,p2,(e2:r1=p2++r2),f2,h⟩:=zrq.step h
 obtain⟨x3,r3,p3,(e3:r2=p3++r3),f3,h⟩:=(zav .i64).step h
 obtain⟨x4,r4,p4,(e4:r3=p4++r4),f4,h⟩:=(zjk (Ty.int .i64)).step h
 obtain⟨x5,r5,p5,(e5:r4=p5++r5),f5,h⟩:=(zjk Ty.str).step h
 obtain⟨x6,r6,p6,(e6:r5=p6++r6),f6,h⟩:=(zav .i64).step h
 obtain⟨x7,r7,p7,(e7:r6=p7++r7),f7,h⟩:=(zav .i64).step h
 obtain⟨x8,r8,p8,(e8:r7=p8++r8),f8,h⟩:=(zav .i64).step h
 obtain⟨x9,r9,p9,(e9:r8=p9++r9),f9,h⟩:=(zav .i64).step h
 cases h
 exact⟨(p0++(p1++(p2++(p3++(p4++(p5++(p6++(p7++(p8++p9))))))))),by rw [e0,e1,e2,e3,e4,e5,e6,e7,e8,e9];simp only [List.append_assoc],(f0.append (f1.append (f2.append (f3.append (f4.append (f5.append (f6.append (f7.append (f8.append f9)))))))))⟩
theorem z5l:Sp (U:=U) z1v zadd:=fun l x r h=>by
 unfold z1v at h
 obtain⟨x0,r0,p0,e0,f0,h⟩:=(zav .i64).step h
 obtain⟨x1,r1,p1,(e1:r0=p1++r1),f1,h⟩:=zq1.step h
 cases h
 exact⟨(p0++p1),by rw [e0,e1];simp only [List.append_assoc],(f0.append f1)⟩
theorem z1g:Sp (U:=U) zvt z7t:=fun l x r h=>by
 unfold zvt at h
 obtain⟨x0,r0,p0,e0,f0,h⟩:=(zjk (Ty.sl Ty.zD)).step h
 obtain⟨x1,r1,p1,(e1:r0=p1++r1),f1,h⟩:=(zjk (Ty.int .i64)).step h
 cases h
 exact⟨(p0++p1),by rw [e0,e1];simp only [List.append_assoc],(f0.append f1)⟩
theorem z1e:Sp (U:=U) zre zok:=fun l x r h=>by
 unfold zre at h
 obtain⟨x0,r0,p0,e0,f0,h⟩:=z1h.step h
 obtain⟨x1,r1,p1,(e1:r0=p1++r1),f1,h⟩:=zsz.step h
 obtain⟨x2,r2,p2,(e2:r1=p2++r2),f2,h⟩:=zsz.step h
 obtain⟨x3,r3,p3,(e3:r2=p3++r3),f3,h⟩:=z1g.step h
 cases h
 exact⟨(p0++(p1++(p2++p3))),by rw [e0,e1,e2,e3];simp only [List.append_assoc],(f0.append (f1.append (f2.append f3)))⟩
theorem z8j:Sp (U:=U) zxu z4f:=fun l x r h=>by
 unfold zxu at h
 obtain⟨x0,r0,p0,e0,f0,h⟩:=(zjk Ty.str).step h
 obtain⟨x1,r1,p1,(e1:r0=p1++r1),f1,h⟩:=(zav .i64).step h
 obtain⟨x2,r2,p2,(e2:r1=p2++r2),f2,h⟩:=(zav .i64).step h
 obtain⟨x3,r3,p3,(e3:r2=p3++r3),f3,h⟩:=(zav .i64).step h
 obtain⟨x4,r4,p4,(e4:r3=p4++r4),f4,h⟩:=(zav .i64).step h
 obtain⟨x5,r5,p5,(e5:r4=p5++r5),f5,h⟩:=zrq.step h
 cases h
 exact⟨(p0++(p1++(p2++(p3++(p4++p5))))),by rw [e0,e1,e2,e3,e4,e5];simp only [List.append_assoc],(f0.append (f1.append (f2.append (f3.append (f4.append f5)))))⟩
theorem zaed:Sp (U:=U) z6e zade:=fun l x r h=>by
 unfold z6e at h
 obtain⟨x0,r0,p0,e0,f0,h⟩:=(zjk (Ty.int .i64)).step h
 cases h
 exact⟨p0,by rw [e0],f0⟩
theorem z5m:Sp (U:=U) zvq z2g:=fun l x r h=>by
 unfold zvq at h
 obtain⟨x0,r0,p0,e0,f0,h⟩:=zq1.step h
 obtain⟨x1,r1,p1,(e1:r0=p1++r1),f1,h⟩:=(zav .i64).step h
 obtain⟨x2,r2,p2,(e2:r1=p2++r2),f2,h⟩:=zmq.step h
 obtain⟨x3,r3,p3,(e3:r2=p3++r3),f3,h⟩:=z5l.step h
 obtain⟨x4,r4,p4,(e4:r3=p4++r4),f4,h⟩:=zq1.step h
 obtain⟨x5,r5,p5,(e5:r4=p5++r5),f5,h⟩:=(zav .i64).step h
 obtain⟨x6,r6,p6,(e6:r5=p6++r6),f6,h⟩:=(zav .i64).step h
 cases h
 exact⟨(p0++(p1++(p2++(p3++(p4++(p5++p6)))))),by rw [e0,e1,e2,e3,e4,e5,e6];simp only [List.append_assoc],(f0.append (f1.append (f2.append (f3.append (f4.append (f5.append f6))))))⟩
theorem zz5:Sp (U:=U) zp7 zux:=fun l x r h=>by
 unfold zp7 at h
 obtain⟨x0,r0,p0,e0,f0,h⟩:=(zav .i64).step h
 obtain⟨x1,r1,p1,(e1:r0=p1++r1),f1,h⟩:=(zjk (Ty.int .i64)).step h
 cases h
 exact⟨(p0++p1),by rw [e0,e1];simp only [List.append_assoc],(f0.append f1)⟩
theorem z5n:Sp (U:=U) zvr z2h:=fun l x r h=>by
 unfold zvr at h
 obtain⟨x0,r0,p0,e0,f0,h⟩:=(zav .i64).step h
 obtain⟨x1,r1,p1,(e1:r0=p1++r1),f1,h⟩:=(zav .i64).step h
 obtain⟨x2,r2,p2,(e2:r1=p2++r2),f2,h⟩:=(zav .i64).step h
 obtain⟨x3,r3,p3,(e3:r2=p3++r3),f3,h⟩:=(zav .i64).step h
 cases h
 exact⟨(p0++(p1++(p2++p3))),by rw [e0,e1,e2,e3];simp only [List.append_assoc],(f0.append (f1.append (f2.append f3)))⟩
theorem zxh:Sp (U:=U) zrt z2f:=fun l x r h=>by
 unfold zrt at h
 obtain⟨x0,r0,p0,e0,f0,h⟩:=(zjk Ty.zL).step h
 obtain⟨x1,r1,p1,(e1:r0=p1++r1),f1,h⟩:=(zjk Ty.zS).step h
 obtain⟨x2,r2,p2,(e2:r1=p2++r2),f2,h⟩:=(zjk Ty.zX).step h
 cases h
 exact⟨(p0++(p1++p2)),by rw [e0,e1,e2];simp only [List.append_assoc],(f0.append (f1.append f2))⟩
theorem zsu:Sp (U:=U) zls zo6:=fun l x r h=>by
 unfold zls at h
 obtain⟨x0,r0,p0,e0,f0,h⟩:=zxh.step h
 obtain⟨x1,r1,p1,(e1:r0=p1++r1),f1,h⟩:=(zjk (Ty.int .i64)).step h
 obtain⟨x2,r2,p2,(e2:r1=p2++r2),f2,h⟩:=(zjk Ty.zA).step h
 cases h
 exact⟨(p0++(p1++p2)),by rw [e0,e1,e2];simp only [List.append_assoc],(f0.append (f1.append f2))⟩
theorem zw7:Sp (U:=U) zn4 zrl:=fun l x r h=>by
 unfold zn4 at h
 obtain⟨x0,r0,p0,e0,f0,h⟩:=z1f.step h
 obtain⟨x1,r1,p1,(e1:r0=p1++r1),f1,h⟩:=zsz.step h
 obtain⟨x2,r2,p2,(e2:r1=p2++r2),f2,h⟩:=(zav .i64).step h
 cases h
 exact⟨(p0++(p1++p2)),by rw [e0,e1,e2];simp only [List.append_assoc],(f0.append (f1.append f2))⟩
theorem zaai:Sp (U:=U) z0i z7r:=fun l x r h=>by
 unfold z0i at h
 obtain⟨x0,r0,p0,e0,f0,h⟩:=(zav .i64).step h
 obtain⟨x1,r1,p1,(e1:r0=p1++r1),f1,h⟩:=(zav .i64).step h
 cases h
 exact⟨(p0++p1),by rw [e0,e1];simp only [List.append_assoc],(f0.append f1)⟩
theorem z1d:Sp (U:=U) zrd zw3:=fun l x r h=>by
 unfold zrd at h
 obtain⟨x0,r0,p0,e0,f0,h⟩:=zev.step h
 obtain⟨x1,r1,p1,(e1:r0=p1++r1),f1,h⟩:=zev.step h
 obtain⟨x2,r2,p2,(e2:r1=p2++r2),f2,h⟩:=zev.step h
 obtain⟨x3,r3,p3,(e3:r2=p3++r3),f3,h⟩:=zev.step h
 obtain⟨x4,r4,p4,(e4:r3=p4++r4),f4,h⟩:=zev.step h
 obtain⟨x5,r5,p5,(e5:r4=p5++r5),f5,h⟩:=zev.step h
 obtain⟨x6,r6,p6,(e6:r5=p6++r6),f6,h⟩:=zev.step h
 obtain⟨x7,r7,p7,(e7:r6=p7++r7),f7,h⟩:=zev.step h
 obtain⟨x8,r8,p8,(e8:r7=p8++r8),f8,h⟩:=zev.step h
 obtain⟨x9,r9,p9,(e9:r8=p9++r9),f9,h⟩:=zev.step h
 obtain⟨x10,r10,p10,(e10:r9=p10++r10),f10,h⟩:=zev.step h
 obtain⟨x11,r11,p11,(e11:r10=p11++r11),f11,h⟩:=zev.step h
 obtain⟨x12,r12,p12,(e12:r11=p12++r12),f12,h⟩:=zev.step h
 obtain⟨x13,r13,p13,(e13:r12=p13++r13),f13,h⟩:=zev.step h
 obtain⟨x14,r14,p14,(e14:r13=p14++r14),f14,h⟩:=(zav .i64).step h
 obtain⟨x15,r15,p15,(e15:r14=p15++r15),f15,h⟩:=(zav .i64).step h
 cases h
 exact⟨(p0++(p1++(p2++(p3++(p4++(p5++(p6++(p7++(p8++(p9++(p10++(p11++(p12++(p13++(p14++p15))))))))))))))),by rw [e0,e1,e2,e3,e4,e5,e6,e7,e8,e9,e10,e11,e12,e13,e14,e15];simp only [List.append_assoc],(f0.append (f1.append (f2.append (f3.append (f4.append (f5.append (f6.append (f7.append (f8.append (f9.append (f10.append (f11.append (f12.append (f13.append (f14.append f15)))))))))))))))⟩
theorem zwx:Sp (U:=U) zqn zzt:=fun l x r h=>by
 unfold zqn at h
 obtain⟨x0,r0,p0,e0,f0,h⟩:=zev.step h
 obtain⟨x1,r1,p1,(e1:r0=p1++r1),f1,h⟩:=(zjk (Ty.int .i64)).step h
 cases h
 exact⟨(p0++p1),by rw [e0,e1];simp only [List.append_assoc],(f0.append f1)⟩
theorem z1i:Sp (U:=U) zvv z7w:=fun l x r h=>by
 unfold zvv at h
 obtain⟨x0,r0,p0,e0,f0,h⟩:=(zav .i64).step h
 obtain⟨x1,r1,p1,(e1:r0=p1++r1),f1,h⟩:=(zav .i64).step h
 cases h
 exact⟨(p0++p1),by rw [e0,e1];simp only [List.append_assoc],(f0.append f1)⟩
theorem zaah:Sp (U:=U) z0h z7q:=fun l x r h=>by
 unfold z0h at h
 obtain⟨x0,r0,p0,e0,f0,h⟩:=(zav .i64).step h
 obtain⟨x1,r1,p1,(e1:r0=p1++r1),f1,h⟩:=z1i.step h
 obtain⟨x2,r2,p2,(e2:r1=p2++r2),f2,h⟩:=(zav .i64).step h
 cases h
 exact⟨(p0++(p1++p2)),by rw [e0,e1,e2];simp only [List.append_assoc],(f0.append (f1.append f2))⟩
theorem zz3:Sp (U:=U) zp0 zuu:=fun l x r h=>by
 unfold zp0 at h
 obtain⟨x0,r0,p0,e0,f0,h⟩:=(zav .i64).step h
 obtain⟨x1,r1,p1,(e1:r0=p1++r1),f1,h⟩:=zmq.step h
 obtain⟨x2,r2,p2,(e2:r1=p2++r2),f2,h⟩:=zev.step h
 cases h
 exact⟨(p0++(p1++p2)),by rw [e0,e1,e2];simp only [List.append_assoc],(f0.append (f1.append f2))⟩
theorem zza:Sp (U:=U) zpc zte:=fun l x r h=>by
 unfold zpc at h
 obtain⟨x0,r0,p0,e0,f0,h⟩:=zwx.step h
 obtain⟨x1,r1,p1,(e1:r0=p1++r1),f1,h⟩:=(zjk (Ty.int .i64)).step h
 cases h
 exact⟨(p0++p1),by rw [e0,e1];simp only [List.append_assoc],(f0.append f1)⟩
theorem zxi:Sp (U:=U) zuk z9r:=fun l x r h=>by
 unfold zuk at h
 obtain⟨x0,r0,p0,e0,f0,h⟩:=(zav .u64).step h
 obtain⟨x1,r1,p1,(e1:r0=p1++r1),f1,h⟩:=(zav .u64).step h
 obtain⟨x2,r2,p2,(e2:r1=p2++r2),f2,h⟩:=(zav .u64).step h
 obtain⟨x3,r3,p3,(e3:r2=p3++r3),f3,h⟩:=(zav .u64).step h
 cases h
 exact⟨(p0++(p1++(p2++p3))),by rw [e0,e1,e2,e3];simp only [List.append_assoc],(f0.append (f1.append (f2.append f3)))⟩
theorem zw6:Sp (U:=U) zn3 zrk:=fun l x r h=>by
 unfold zn3 at h
 obtain⟨x0,r0,p0,e0,f0,h⟩:=zev.step h
 obtain⟨x1,r1,p1,(e1:r0=p1++r1),f1,h⟩:=zxi.step h
 obtain⟨x2,r2,p2,(e2:r1=p2++r2),f2,h⟩:=zxi.step h
 cases h
 exact⟨(p0++(p1++p2)),by rw [e0,e1,e2];simp only [List.append_assoc],(f0.append (f1.append f2))⟩
theorem sp:∀t:Ty,Sp (U:=U) (rd t) (enc t)
 | .int k=>zav k
 | .bool=>zev
 | .str=>zq1
 | .nil=>zaiu
 | .sl t=>zjk t
 | .st 0=>zz4
 | .st 1=>ztq
 | .st 2=>zpx
 | .st 3=>z1h
 | .st 4=>zrq
 | .st 5=>zvg
 | .st 6=>zmq
 | .st 7=>z3t
 | .st 8=>zz6
 | .st 9=>zab6
 | .st 10=>zsz
 | .st 11=>zab7
 | .st 12=>z1f
 | .st 13=>z5l
 | .st 14=>z1g
 | .st 15=>z1e
 | .st 16=>z8j
 | .st 17=>zaed
 | .st 18=>z5m
 | .st 19=>zz5
 | .st 20=>z5n
 | .st 21=>zxh
 | .st 22=>zsu
 | .st 23=>zw7
 | .st 24=>zaai
 | .st 25=>z1d
 | .st 26=>zwx
 | .st 27=>z1i
 | .st 28=>zaah
 | .st 29=>zz3
 | .st 30=>zza
 | .st 31=>zxi
 | .st 32=>zw6
 | .st (_+33)=>fun l x r h=>by cases h
theorem zafo:∀(t:Ty) (x:den t),(enc t x).length=szT t
 | .int _,_=>rfl
 | .bool,_=>rfl
 | .str,_=>rfl
 | .nil,_=>rfl
 | .sl _,_=>rfl
 | .st 0,_=>rfl
 | .st 1,_=>rfl
 | .st 2,_=>rfl
 | .st 3,_=>rfl
 | .st 4,_=>rfl
 | .st 5,_=>rfl
 | .st 6,_=>rfl
 | .st 7,_=>rfl
 | .st 8,_=>rfl
 | .st 9,_=>rfl
 | .st 10,_=>rfl
 | .st 11,_=>rfl
 | .st 12,_=>rfl
 | .st 13,_=>rfl
 | .st 14,_=>rfl
 | .st 15,_=>rfl
 | .st 16,_=>rfl
 | .st 17,_=>rfl
 | .st 18,_=>rfl
 | .st 19,_=>rfl
 | .st 20,_=>rfl
 | .st 21,_=>rfl
 | .st 22,_=>rfl
 | .st 23,_=>rfl
 | .st 24,_=>rfl
 | .st 25,_=>rfl
 | .st 26,_=>rfl
 | .st 27,_=>rfl
 | .st 28,_=>rfl
 | .st 29,_=>rfl
 | .st 30,_=>rfl
 | .st 31,_=>rfl
 | .st 32,_=>rfl
 | .st (_+33),_=>rfl
theorem zai6:∀t:Ty,0<szT t
 | .int _=>Nat.one_pos
 | .bool=>Nat.one_pos
 | .str=>Nat.one_pos
 | .nil=>Nat.one_pos
 | .sl _=>Nat.one_pos
 | .st 0=>(by decide:0<2)
 | .st 1=>(by decide:0<4)
 | .st 2=>(by decide:0<2)
 | .st 3=>(by decide:0<3)
 | .st 4=>(by decide:0<2)
 | .st 5=>(by decide:0<3)
 | .st 6=>(by decide:0<3)
 | .st 7=>(by decide:0<2)
 | .st 8=>(by decide:0<27)
 | .st 9=>(by decide:0<4)
 | .st 10=>(by decide:0<4)
 | .st 11=>(by decide:0<5)
 | .st 12=>(by decide:0<11)
 | .st 13=>(by decide:0<2)
 | .st 14=>(by decide:0<2)
 | .st 15=>(by decide:0<13)
 | .st 16=>(by decide:0<7)
 | .st 17=>(by decide:0<1)
 | .st 18=>(by decide:0<10)
 | .st 19=>(by decide:0<2)
 | .st 20=>(by decide:0<4)
 | .st 21=>(by decide:0<3)
 | .st 22=>(by decide:0<5)
 | .st 23=>(by decide:0<16)
 | .st 24=>(by decide:0<2)
 | .st 25=>(by decide:0<16)
 | .st 26=>(by decide:0<2)
 | .st 27=>(by decide:0<2)
 | .st 28=>(by decide:0<4)
 | .st 29=>(by decide:0<5)
 | .st 30=>(by decide:0<3)
 | .st 31=>(by decide:0<4)
 | .st 32=>(by decide:0<9)
 | .st (_+33)=>Nat.one_pos
theorem zami:∀(t:Ty) (x:den t),(enc t x).all (fzc (U:=U))=true
 | .int _,_=>rfl
 | .bool,_=>rfl
 | .str,_=>rfl
 | .nil,_=>rfl
 | .sl _,_=>rfl
 | .st 0,_=>rfl
 | .st 1,_=>rfl
 | .st 2,_=>rfl
 | .st 3,_=>rfl
 | .st 4,_=>rfl
 | .st 5,_=>rfl
 | .st 6,_=>rfl
 | .st 7,_=>rfl
 | .st 8,_=>rfl
 | .st 9,_=>rfl
 | .st 10,_=>rfl
 | .st 11,_=>rfl
 | .st 12,_=>rfl
 | .st 13,_=>rfl
 | .st 14,_=>rfl
 | .st 15,_=>rfl
 | .st 16,_=>rfl
 | .st 17,_=>rfl
 | .st 18,_=>rfl
 | .st 19,_=>rfl
 | .st 20,_=>rfl
 | .st 21,_=>rfl
 | .st 22,_=>rfl
 | .st 23,_=>rfl
 | .st 24,_=>rfl
 | .st 25,_=>rfl
 | .st 26,_=>rfl
 | .st 27,_=>rfl
 | .st 28,_=>rfl
 | .st 29,_=>rfl
 | .st 30,_=>rfl
 | .st 31,_=>rfl
 | .st 32,_=>rfl
 | .st (_+33),_=>rfl
theorem zahh:∀t:Ty,zafz t=true→∀x:den t,(enc t x).all (zab8 (U:=U))=true
 | .int _,_,_=>rfl
 | .bool,_,_=>rfl
 | .str,_,_=>rfl
 | .nil,_,_=>rfl
 | .sl _,h,_=>by cases h
 | .st 0,_,_=>rfl
 | .st 1,_,_=>rfl
 | .st 2,_,_=>rfl
 | .st 3,_,_=>rfl
 | .st 4,h,_=>by cases h
 | .st 5,_,_=>rfl
 | .st 6,_,_=>rfl
 | .st 7,_,_=>rfl
 | .st 8,_,_=>rfl
 | .st 9,_,_=>rfl
 | .st 10,h,_=>by cases h
 | .st 11,_,_=>rfl
 | .st 12,h,_=>by cases h
 | .st 13,_,_=>rfl
 | .st 14,h,_=>by cases h
 | .st 15,h,_=>by cases h
 | .st 16,h,_=>by cases h
 | .st 17,h,_=>by cases h
 | .st 18,_,_=>rfl
 | .st 19,h,_=>by cases h
 | .st 20,_,_=>rfl
 | .st 21,h,_=>by cases h
 | .st 22,h,_=>by cases h
 | .st 23,h,_=>by cases h
 | .st 24,_,_=>rfl
 | .st 25,_,_=>rfl
 | .st 26,h,_=>by cases h
 | .st 27,_,_=>rfl
 | .st 28,_,_=>rfl
 | .st 29,_,_=>rfl
 | .st 30,h,_=>by cases h
 | .st 31,_,_=>rfl
 | .st 32,_,_=>rfl
 | .st (_+33),_,_=>rfl
theorem zaja:∀t:Ty,aggT t=false→szT t=1
 | .int _,_=>rfl
 | .bool,_=>rfl
 | .str,_=>rfl
 | .nil,_=>rfl
 | .sl _,_=>rfl
 | .st _,h=>by cases h
theorem zjo:ELaws En where
 sz:=zafo
 pos:=zai6
 fz:=fun t x c hc=>zae0 (z91 (zami t x) hc)
 one:=zaja
 reify:=fun t cs x h=>by
  have h':reify t cs=some x:=h;unfold reify at h';rw [Option.bind_eq_some_iff]at h';obtain⟨⟨y,r⟩,h1,h2⟩:=h';cases r with
  | cons=>cases h2
  | nil=>
   cases h2;obtain⟨p,e,f⟩:=sp t cs _ _ h1;rw [List.append_nil]at e;subst e;exact⟨f.length.trans (zafo t _),fun j c c' g1 g2=>f.get j c c' g1 g2⟩
 flat:=fun t ht x c hc=>z8o (z91 (zahh t ht x) hc)
 slAgg:=fun _=>rfl
 slEnc:=fun _ _=>rfl
 ofTo:=fun _ _=>rfl
 u8sz:=rfl
 u8:=fun x=>⟨x,rfl⟩
 toInts:=fun xs i x n h1 h2=>by cases h2;exact h1
 toIntsLen:=fun _=>rfl
 ofInts:=fun l i n h=>⟨n,h,rfl⟩
 ofIntsLen:=fun _=>rfl
theorem zwm {O:List (Nat × Ct U)} {X:List (Nat × Nat)} {J:List (Nat × Amx.Spec U × List Ty)} {pre:List (Nat × List Nat)} {lits ro pk bj:List Nat}:CLaws (zpo O X J pre lits ro pk bj):=
 zafb zjo (l:=zafv) rfl (by kernel_rfl)
def ctv (ps:List (Md U)) (res outs:List Ty) (fr:List Nat) (ts:List Ty) (f:Fnc U ts (PT U (res++outs))):Ct U:={params:=ps,results:=res,outs:=outs,fresh:=fr,fn:=app U ts f}
def cvv (res ts:List Ty) (f:Fnc U ts (PT U (res++[]))):Ct U:=ctv (ts.map .val) res [] [] ts f
def K0:Ctx U:=zpo [] [] [] [] [] [] [] []
@[reducible] def Kq:Type:=Kp K0
structure Cf where
 X:List (Nat × Nat):=[]
 J:List (Nat × Amx.Spec U × List Ty):=[]
 pre:List (Nat × List Nat):=[]
 lits:List Nat:=[]
 ro:List Nat:=[]
 pk:List Nat:=[]
 bj:List Nat:=[]
def cxo (l:List Kq) (c:Cf):Ctx U:=zpo (Osk l) c.X c.J c.pre c.lits c.ro c.pk c.bj
theorem go (l:List Kq) (c:Cf) {f:FuncId} {fn:Func} {ps:List (Md U)} {res outs:List Ty} {fr:List Nat} {ts:List Ty} {F:Fnc U ts (PT U (res++outs))} (L:List (Nat × Cut U (PT U ((ctv ps res outs fr ts F).results++(ctv ps res outs fr ts F).outs)))) (hf:Proofs.Tryz.prog.funcs[f]?=some fn) (hn:((fn.name== "runtime.NumGoroutine")|| !fn.body.isSome)=false:=by kernel_rfl)
 (hok:z2e (cxo l c) (ctv ps res outs fr ts F)=fun _=>true:=by kernel_rfl) (hr:(cur ts (runF (cxo l c) fn (ctv ps res outs fr ts F) (pick L)):Fnc U ts (PT U (res++outs)))=F:=by kernel_rfl) (hL:Ls (cxo l c) fn (ctv ps res outs fr ts F) (pick L) L:=by exact trivial) (hX:∀p∈c.X,zyt Proofs.Tryz.prog p:=by exact all_nil):zif K0 f (ctv ps res outs fr ts F):=by
 rw [Bool.or_eq_false_iff]at hn
 exact zif.ctx (C:=cxo l c) (C':=K0) rfl rfl rfl (zacz (C:=cxo l c) zwm (zals (C:=cxo l c) (C0:=K0) (l:=l) rfl rfl rfl rfl) (zuf (l:=c.X) rfl hX) hf hn.1 (by simpa using hn.2) (zaji rfl hL) (fun y=>congrFun hok y) (zaht hr))
theorem zaki:zyt Proofs.Tryz.prog (330,2):=zaf4 Proofs.Tryz.func330 (by kernel_rfl) (by kernel_rfl) (by kernel_rfl) (by kernel_rfl)
theorem zafj:zyt Proofs.Tryz.prog (348,0):=zabt Proofs.Tryz.func348 (by kernel_rfl) (by kernel_rfl) (by kernel_rfl) (by kernel_rfl)
theorem zakh:zyt Proofs.Tryz.prog (357,1):=zabs Proofs.Tryz.func357 (by kernel_rfl) (by kernel_rfl) (by kernel_rfl) (by kernel_rfl)
end
end Go.Proofs.YtbmfjmakahmclaaGreatDoor.M
