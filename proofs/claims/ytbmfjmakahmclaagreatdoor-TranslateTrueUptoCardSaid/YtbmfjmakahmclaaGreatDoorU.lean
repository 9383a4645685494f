/- The program's types, and their cells. -/
import Derived.Test.YtbmfjmakahmclaaGreatDoorA4
import Derived.Test.YtbmfjmakahmclaaGreatDoorShelf
import Derived.KernelRfl
namespace Go.Proofs.YtbmfjmakahmclaaGreatDoor.M
open Go Go.Amx
set_option linter.unusedVariables false
set_option maxRecDepth 100000
noncomputable section
structure zU where
 fields:Int
 types:Int
structure yE where
 x:Int
 y:Int
 signed:Bool
 code:Int
structure yB where
 msg:ByteArray
 addr:Int
structure zJ where
 Registers:Int
 yK:Bool
 yH:Bool
structure Storage where
 Bytes:ByteArray
 Tags:List Bool
structure zN where
 Based:Bool
 Pointer:Int
 Offset:Int
structure DataType where
 Kind:Int
 Length:Int
 Scale:Int
structure Number where
 N:Int
 Scale:Int
structure zB where
 Op:Int
 R:Int
 A:Int
 B:Int
 zM:Int
 Place:zN
 From:zN
 zF:DataType
 Second:DataType
 Half:Bool
 zP:Bool
 Number:Number
 Text:ByteArray
 Other:ByteArray
 Mask:Int
 Target:Int
 Pointer:Int
 Source:Int
structure zT where
 From:Int
 To:Int
 Exception:Int
 Handler:Int
structure zH where
 Storage:Storage
 zA:List zB
 zS:List zT
structure zD where
 Register:Int
 zF:DataType
 Offset:Int
structure zC where
 Registers:List Number
 Condition:Int
 Storage:Storage
 At:Int
 Stack:List Int
 Lines:List ByteArray
 Status:Int
 Exception:Int
 Marks:Int
 Steps:Int
structure Value where
 N:Int
 S:ByteArray
structure yC where
 Facts:List (List zD)
 Index:List Int
structure Optimization where
 Model:zJ
 Before:zH
 After:zH
 Proof:yC
structure yL where
 Lines:List ByteArray
 Status:Int
 Exception:Int
 Marks:Int
 Steps:Int
 Storage:Storage
structure yD where
 Starts:List Int
structure zK where
 Name:ByteArray
 Kind:Int
 zF:DataType
 Value:Value
 Base:ByteArray
 Offset:Int
 Target:Int
structure zR where
 Op:Int
 Args:List Int
structure zX where
 From:Int
 To:Int
 Exception:Int
 Handler:Int
structure zO where
 zV:List zK
 zA:List zR
 yI:List zX
structure zI where
 zO:zO
 layout:List Int
 code:List zB
structure zG where
 zC:zC
 code:zH
 raised:Int
structure zY where
 Part:Int
 Index:Int
structure zQ where
 R:Bool
 A:Bool
 B:Bool
 Place:Bool
 From:Bool
 Half:Bool
 Number:Bool
 zM:Bool
 Mask:Bool
 Target:Bool
 Text:Bool
 Other:Bool
 Pointer:Bool
 Source:Bool
 zF:Int
 Second:Int
structure zL where
 Below:Bool
 zZ:List Int
structure Address where
 yF:Int
 Offset:Int
structure Pointer where
 Kind:Int
 Address:Address
 Authority:Int
structure yA where
 Op:Int
 zF:DataType
 Half:Bool
structure zW where
 Top:zL
 yM:List Int
structure yJ where
 e0:Int
 e1:Int
 e2:Int
 e3:Int
structure yG where
 below:Bool
 amount:yJ
 division:yJ
inductive Ty where
 | int (k:IntKind)
 | bool
 | str
 | nil
 | sl (t:Ty)
 | st (n:Nat)
@[reducible] def z8n:Nat→Type
 | 0=>zU
 | 1=>yE
 | 2=>yB
 | 3=>zJ
 | 4=>Storage
 | 5=>zN
 | 6=>DataType
 | 7=>Number
 | 8=>zB
 | 9=>zT
 | 10=>zH
 | 11=>zD
 | 12=>zC
 | 13=>Value
 | 14=>yC
 | 15=>Optimization
 | 16=>yL
 | 17=>yD
 | 18=>zK
 | 19=>zR
 | 20=>zX
 | 21=>zO
 | 22=>zI
 | 23=>zG
 | 24=>zY
 | 25=>zQ
 | 26=>zL
 | 27=>Address
 | 28=>Pointer
 | 29=>yA
 | 30=>zW
 | 31=>yJ
 | 32=>yG
 | _+33=>Unit
@[reducible] def den:Ty→Type
 | .int _=>Int
 | .bool=>Bool
 | .str=>ByteArray
 | .nil=>Unit
 | .sl t=>List (den t)
 | .st n=>z8n n
def eqTy:(a b:Ty)→Option (PLift (a=b))
 | .int j,.int k=>if h:j=k then some ⟨by rw [h]⟩else none
 | .bool,.bool=>some ⟨rfl⟩
 | .str,.str=>some ⟨rfl⟩
 | .nil,.nil=>some ⟨rfl⟩
 | .sl a,.sl b=>match eqTy a b with
  | some ⟨h⟩=>some ⟨by rw [h]⟩
  | none=>none
 | .st i,.st j=>if h:i=j then some ⟨by rw [h]⟩else none
 | _,_=>none
@[reducible] def U:Uni:={Ty:=Ty,den:=den,eqTy:=eqTy}
@[reducible] def T6:Ty:=Ty.int .i64
def w6 (n:Int):Int:=IntKind.wrap .i64 n
@[reducible] def Ty.zU:Ty:= .st 0
@[reducible] def Ty.yE:Ty:= .st 1
@[reducible] def Ty.yB:Ty:= .st 2
@[reducible] def Ty.zJ:Ty:= .st 3
@[reducible] def Ty.Storage:Ty:= .st 4
@[reducible] def Ty.zN:Ty:= .st 5
@[reducible] def Ty.DataType:Ty:= .st 6
@[reducible] def Ty.Number:Ty:= .st 7
@[reducible] def Ty.zB:Ty:= .st 8
@[reducible] def Ty.zT:Ty:= .st 9
@[reducible] def Ty.zH:Ty:= .st 10
@[reducible] def Ty.zD:Ty:= .st 11
@[reducible] def Ty.zC:Ty:= .st 12
@[reducible] def Ty.Value:Ty:= .st 13
@[reducible] def Ty.yC:Ty:= .st 14
@[reducible] def Ty.Optimization:Ty:= .st 15
@[reducible] def Ty.yL:Ty:= .st 16
@[reducible] def Ty.yD:Ty:= .st 17
@[reducible] def Ty.zK:Ty:= .st 18
@[reducible] def Ty.zR:Ty:= .st 19
@[reducible] def Ty.zX:Ty:= .st 20
@[reducible] def Ty.zO:Ty:= .st 21
@[reducible] def Ty.zI:Ty:= .st 22
@[reducible] def Ty.zG:Ty:= .st 23
@[reducible] def Ty.zY:Ty:= .st 24
@[reducible] def Ty.zQ:Ty:= .st 25
@[reducible] def Ty.zL:Ty:= .st 26
@[reducible] def Ty.Address:Ty:= .st 27
@[reducible] def Ty.Pointer:Ty:= .st 28
@[reducible] def Ty.yA:Ty:= .st 29
@[reducible] def Ty.zW:Ty:= .st 30
@[reducible] def Ty.yJ:Ty:= .st 31
@[reducible] def Ty.yG:Ty:= .st 32
def zb1 (k:IntKind):List (AV U)→Option (Int × List (AV U))
 | .sc (.int k' n)::l=>if k=k' then some (n,l)else none
 | _=>none
def zgq:List (AV U)→Option (Bool × List (AV U))
 | .sc (.bool b)::l=>some (b,l)
 | _=>none
def ztr:List (AV U)→Option (ByteArray × List (AV U))
 | .sc (.string s)::l=>some (s,l)
 | _=>none
def rNil:List (AV U)→Option (Unit × List (AV U))
 | .sc (.slice none 0 0)::l=>some ((),l)
 | _=>none
def rSl (t:Ty):List (AV U)→Option (List (den t) × List (AV U))
 | .lst t' xs::l=>(U.eqTy t' t).map fun e=>(zwa e xs,l)
 | .sc (.slice none 0 0)::l=>some ([],l)
 | _=>none
def zpw (l:List (AV U)):Option (zU × List (AV U)):=(zb1 .i64 l).bind fun x0=>(zb1 .i64 x0.2).bind fun x1=>some (⟨x0.1,x1.1⟩,x1.2)
def zlx (l:List (AV U)):Option (yE × List (AV U)):=(zb1 .i64 l).bind fun x0=>(zb1 .i64 x0.2).bind fun x1=>(zgq x1.2).bind fun x2=>(zb1 .u8 x2.2).bind fun x3=>some (⟨x0.1,x1.1,x2.1,x3.1⟩,x3.2)
def zih (l:List (AV U)):Option (yB × List (AV U)):=(ztr l).bind fun x0=>(zb1 .u64 x0.2).bind fun x1=>some (⟨x0.1,x1.1⟩,x1.2)
def zvm (l:List (AV U)):Option (zJ × List (AV U)):=(zb1 .i64 l).bind fun x0=>(zgq x0.2).bind fun x1=>(zgq x1.2).bind fun x2=>some (⟨x0.1,x1.1,x2.1⟩,x2.2)
def zpy (l:List (AV U)):Option (Storage × List (AV U)):=(ztr l).bind fun x0=>(rSl Ty.bool x0.2).bind fun x1=>some (⟨x0.1,x1.1⟩,x1.2)
def zsb (l:List (AV U)):Option (zN × List (AV U)):=(zgq l).bind fun x0=>(zb1 .i64 x0.2).bind fun x1=>(zb1 .i64 x1.2).bind fun x2=>some (⟨x0.1,x1.1,x2.1⟩,x2.2)
def zlp (l:List (AV U)):Option (DataType × List (AV U)):=(zb1 .i64 l).bind fun x0=>(zb1 .i64 x0.2).bind fun x1=>(zb1 .i64 x1.2).bind fun x2=>some (⟨x0.1,x1.1,x2.1⟩,x2.2)
def zyf (l:List (AV U)):Option (Number × List (AV U)):=(zb1 .i64 l).bind fun x0=>(zb1 .i64 x0.2).bind fun x1=>some (⟨x0.1,x1.1⟩,x1.2)
def zp0 (l:List (AV U)):Option (zB × List (AV U)):=(zb1 .i64 l).bind fun x0=>(zb1 .i64 x0.2).bind fun x1=>(zb1 .i64 x1.2).bind fun x2=>(zb1 .i64 x2.2).bind fun x3=>(zb1 .i64 x3.2).bind fun x4=>(zsb x4.2).bind fun x5=>(zsb x5.2).bind fun x6=>(zlp x6.2).bind fun x7=>(zlp x7.2).bind fun x8=>(zgq x8.2).bind fun x9=>(zgq x9.2).bind fun x10=>(zyf x10.2).bind fun x11=>(ztr x11.2).bind fun x12=>(ztr x12.2).bind fun x13=>(zb1 .i64 x13.2).bind fun x14=>(zb1 .i64 x14.2).bind fun x15=>(zb1 .i64 x15.2).bind fun x16=>(zb1 .i64 x16.2).bind fun x17=>some (⟨x0.1,x1.1,x2.1,x3.1,x4.1,x5.1,x6.1,x7.1,x8.1,x9.1,x10.1,x11.1,x12.1,x13.1,x14.1,x15.1,x16.1,x17.1⟩,x17.2)
def z2b (l:List (AV U)):Option (zT × List (AV U)):=(zb1 .i64 l).bind fun x0=>(zb1 .i64 x0.2).bind fun x1=>(zb1 .i64 x1.2).bind fun x2=>(zb1 .i64 x2.2).bind fun x3=>some (⟨x0.1,x1.1,x2.1,x3.1⟩,x3.2)
def zr1 (l:List (AV U)):Option (zH × List (AV U)):=(zpy l).bind fun x0=>(rSl Ty.zB x0.2).bind fun x1=>(rSl Ty.zT x1.2).bind fun x2=>some (⟨x0.1,x1.1,x2.1⟩,x2.2)
def z2c (l:List (AV U)):Option (zD × List (AV U)):=(zb1 .i64 l).bind fun x0=>(zlp x0.2).bind fun x1=>(zb1 .i64 x1.2).bind fun x2=>some (⟨x0.1,x1.1,x2.1⟩,x2.2)
def zvk (l:List (AV U)):Option (zC × List (AV U)):=(rSl Ty.Number l).bind fun x0=>(zb1 .i64 x0.2).bind fun x1=>(zpy x1.2).bind fun x2=>(zb1 .i64 x2.2).bind fun x3=>(rSl (Ty.int .i64) x3.2).bind fun x4=>(rSl Ty.str x4.2).bind fun x5=>(zb1 .i64 x5.2).bind fun x6=>(zb1 .i64 x6.2).bind fun x7=>(zb1 .i64 x7.2).bind fun x8=>(zb1 .i64 x8.2).bind fun x9=>some (⟨x0.1,x1.1,x2.1,x3.1,x4.1,x5.1,x6.1,x7.1,x8.1,x9.1⟩,x9.2)
def z1b (l:List (AV U)):Option (Value × List (AV U)):=(zb1 .i64 l).bind fun x0=>(ztr x0.2).bind fun x1=>some (⟨x0.1,x1.1⟩,x1.2)
def zvl (l:List (AV U)):Option (yC × List (AV U)):=(rSl (Ty.sl Ty.zD) l).bind fun x0=>(rSl (Ty.int .i64) x0.2).bind fun x1=>some (⟨x0.1,x1.1⟩,x1.2)
def zq6 (l:List (AV U)):Option (Optimization × List (AV U)):=(zvm l).bind fun x0=>(zr1 x0.2).bind fun x1=>(zr1 x1.2).bind fun x2=>(zvl x2.2).bind fun x3=>some (⟨x0.1,x1.1,x2.1,x3.1⟩,x3.2)
def zxe (l:List (AV U)):Option (yL × List (AV U)):=(rSl Ty.str l).bind fun x0=>(zb1 .i64 x0.2).bind fun x1=>(zb1 .i64 x1.2).bind fun x2=>(zb1 .i64 x2.2).bind fun x3=>(zb1 .i64 x3.2).bind fun x4=>(zpy x4.2).bind fun x5=>some (⟨x0.1,x1.1,x2.1,x3.1,x4.1,x5.1⟩,x5.2)
def z4x (l:List (AV U)):Option (yD × List (AV U)):=(rSl (Ty.int .i64) l).bind fun x0=>some (⟨x0.1⟩,x0.2)
def zvi (l:List (AV U)):Option (zK × List (AV U)):=(ztr l).bind fun x0=>(zb1 .i64 x0.2).bind fun x1=>(zlp x1.2).bind fun x2=>(z1b x2.2).bind fun x3=>(ztr x3.2).bind fun x4=>(zb1 .i64 x4.2).bind fun x5=>(zb1 .i64 x5.2).bind fun x6=>some (⟨x0.1,x1.1,x2.1,x3.1,x4.1,x5.1,x6.1⟩,x6.2)
def zpz (l:List (AV U)):Option (zR × List (AV U)):=(zb1 .i64 l).bind fun x0=>(rSl (Ty.int .i64) x0.2).bind fun x1=>some (⟨x0.1,x1.1⟩,x1.2)
def zvj (l:List (AV U)):Option (zX × List (AV U)):=(zb1 .i64 l).bind fun x0=>(zb1 .i64 x0.2).bind fun x1=>(zb1 .i64 x1.2).bind fun x2=>(zb1 .i64 x2.2).bind fun x3=>some (⟨x0.1,x1.1,x2.1,x3.1⟩,x3.2)
def zrn (l:List (AV U)):Option (zO × List (AV U)):=(rSl Ty.zK l).bind fun x0=>(rSl Ty.zR x0.2).bind fun x1=>(rSl Ty.zX x1.2).bind fun x2=>some (⟨x0.1,x1.1,x2.1⟩,x2.2)
def zla (l:List (AV U)):Option (zI × List (AV U)):=(zrn l).bind fun x0=>(rSl (Ty.int .i64) x0.2).bind fun x1=>(rSl Ty.zB x1.2).bind fun x2=>some (⟨x0.1,x1.1,x2.1⟩,x2.2)
def zny (l:List (AV U)):Option (zG × List (AV U)):=(zvk l).bind fun x0=>(zr1 x0.2).bind fun x1=>(zb1 .i64 x1.2).bind fun x2=>some (⟨x0.1,x1.1,x2.1⟩,x2.2)
def zz4 (l:List (AV U)):Option (zY × List (AV U)):=(zb1 .i64 l).bind fun x0=>(zb1 .i64 x0.2).bind fun x1=>some (⟨x0.1,x1.1⟩,x1.2)
def zq5 (l:List (AV U)):Option (zQ × List (AV U)):=(zgq l).bind fun x0=>(zgq x0.2).bind fun x1=>(zgq x1.2).bind fun x2=>(zgq x2.2).bind fun x3=>(zgq x3.2).bind fun x4=>(zgq x4.2).bind fun x5=>(zgq x5.2).bind fun x6=>(zgq x6.2).bind fun x7=>(zgq x7.2).bind fun x8=>(zgq x8.2).bind fun x9=>(zgq x9.2).bind fun x10=>(zgq x10.2).bind fun x11=>(zgq x11.2).bind fun x12=>(zgq x12.2).bind fun x13=>(zb1 .i64 x13.2).bind fun x14=>(zb1 .i64 x14.2).bind fun x15=>some (⟨x0.1,x1.1,x2.1,x3.1,x4.1,x5.1,x6.1,x7.1,x8.1,x9.1,x10.1,x11.1,x12.1,x13.1,x14.1,x15.1⟩,x15.2)
def zqg (l:List (AV U)):Option (zL × List (AV U)):=(zgq l).bind fun x0=>(rSl (Ty.int .i64) x0.2).bind fun x1=>some (⟨x0.1,x1.1⟩,x1.2)
def zvn (l:List (AV U)):Option (Address × List (AV U)):=(zb1 .i64 l).bind fun x0=>(zb1 .i64 x0.2).bind fun x1=>some (⟨x0.1,x1.1⟩,x1.2)
def zz3 (l:List (AV U)):Option (Pointer × List (AV U)):=(zb1 .i64 l).bind fun x0=>(zvn x0.2).bind fun x1=>(zb1 .i64 x1.2).bind fun x2=>some (⟨x0.1,x1.1,x2.1⟩,x2.2)
def zpt (l:List (AV U)):Option (yA × List (AV U)):=(zb1 .i64 l).bind fun x0=>(zlp x0.2).bind fun x1=>(zgq x1.2).bind fun x2=>some (⟨x0.1,x1.1,x2.1⟩,x2.2)
def zo4 (l:List (AV U)):Option (zW × List (AV U)):=(zqg l).bind fun x0=>(rSl (Ty.int .i64) x0.2).bind fun x1=>some (⟨x0.1,x1.1⟩,x1.2)
def zud (l:List (AV U)):Option (yJ × List (AV U)):=(zb1 .u64 l).bind fun x0=>(zb1 .u64 x0.2).bind fun x1=>(zb1 .u64 x1.2).bind fun x2=>(zb1 .u64 x2.2).bind fun x3=>some (⟨x0.1,x1.1,x2.1,x3.1⟩,x3.2)
def znx (l:List (AV U)):Option (yG × List (AV U)):=(zgq l).bind fun x0=>(zud x0.2).bind fun x1=>(zud x1.2).bind fun x2=>some (⟨x0.1,x1.1,x2.1⟩,x2.2)
def zup (x:zU):List (AV U):=[.sc (.int .i64 x.fields),.sc (.int .i64 x.types)]
def zpj (x:yE):List (AV U):=[.sc (.int .i64 x.x),.sc (.int .i64 x.y),.sc (.bool x.signed),.sc (.int .u8 x.code)]
def zls (x:yB):List (AV U):=[.sc (.string x.msg),.sc (.int .u64 x.addr)]
def z56 (x:zJ):List (AV U):=[.sc (.int .i64 x.Registers),.sc (.bool x.yK),.sc (.bool x.yH)]
def z5x (x:Storage):List (AV U):=[.sc (.string x.Bytes),.lst Ty.bool x.Tags]
def z54 (x:zN):List (AV U):=[.sc (.bool x.Based),.sc (.int .i64 x.Pointer),.sc (.int .i64 x.Offset)]
def z3f (x:DataType):List (AV U):=[.sc (.int .i64 x.Kind),.sc (.int .i64 x.Length),.sc (.int .i64 x.Scale)]
def z71 (x:Number):List (AV U):=[.sc (.int .i64 x.N),.sc (.int .i64 x.Scale)]
def zjq (x:zB):List (AV U):=[.sc (.int .i64 x.Op),.sc (.int .i64 x.R),.sc (.int .i64 x.A),.sc (.int .i64 x.B),.sc (.int .i64 x.zM),.sc (.bool x.Place.Based),.sc (.int .i64 x.Place.Pointer),.sc (.int .i64 x.Place.Offset),.sc (.bool x.From.Based),.sc (.int .i64 x.From.Pointer),.sc (.int .i64 x.From.Offset),.sc (.int .i64 x.zF.Kind),.sc (.int .i64 x.zF.Length),.sc (.int .i64 x.zF.Scale),.sc (.int .i64 x.Second.Kind),.sc (.int .i64 x.Second.Length),.sc (.int .i64 x.Second.Scale),.sc (.bool x.Half),.sc (.bool x.zP),.sc (.int .i64 x.Number.N),.sc (.int .i64 x.Number.Scale),.sc (.string x.Text),.sc (.string x.Other),.sc (.int .i64 x.Mask),.sc (.int .i64 x.Target),.sc (.int .i64 x.Pointer),.sc (.int .i64 x.Source)]
def z72 (x:zT):List (AV U):=[.sc (.int .i64 x.From),.sc (.int .i64 x.To),.sc (.int .i64 x.Exception),.sc (.int .i64 x.Handler)]
def zml (x:zH):List (AV U):=[.sc (.string x.Storage.Bytes),.lst Ty.bool x.Storage.Tags,.lst Ty.zB x.zA,.lst Ty.zT x.zS]
def zus (x:zD):List (AV U):=[.sc (.int .i64 x.Register),.sc (.int .i64 x.zF.Kind),.sc (.int .i64 x.zF.Length),.sc (.int .i64 x.zF.Scale),.sc (.int .i64 x.Offset)]
def z51 (x:zC):List (AV U):=[.lst Ty.Number x.Registers,.sc (.int .i64 x.Condition),.sc (.string x.Storage.Bytes),.lst Ty.bool x.Storage.Tags,.sc (.int .i64 x.At),.lst (Ty.int .i64) x.Stack,.lst Ty.str x.Lines,.sc (.int .i64 x.Status),.sc (.int .i64 x.Exception),.sc (.int .i64 x.Marks),.sc (.int .i64 x.Steps)]
def zabn (x:Value):List (AV U):=[.sc (.int .i64 x.N),.sc (.string x.S)]
def z52 (x:yC):List (AV U):=[.lst (Ty.sl Ty.zD) x.Facts,.lst (Ty.int .i64) x.Index]
def zwm (x:Optimization):List (AV U):=[.sc (.int .i64 x.Model.Registers),.sc (.bool x.Model.yK),.sc (.bool x.Model.yH),.sc (.string x.Before.Storage.Bytes),.lst Ty.bool x.Before.Storage.Tags,.lst Ty.zB x.Before.zA,.lst Ty.zT x.Before.zS,.sc (.string x.After.Storage.Bytes),.lst Ty.bool x.After.Storage.Tags,.lst Ty.zB x.After.zA,.lst Ty.zT x.After.zS,.lst (Ty.sl Ty.zD) x.Proof.Facts,.lst (Ty.int .i64) x.Proof.Index]
def z3e (x:yL):List (AV U):=[.lst Ty.str x.Lines,.sc (.int .i64 x.Status),.sc (.int .i64 x.Exception),.sc (.int .i64 x.Marks),.sc (.int .i64 x.Steps),.sc (.string x.Storage.Bytes),.lst Ty.bool x.Storage.Tags]
def zabo (x:yD):List (AV U):=[.lst (Ty.int .i64) x.Starts]
def z1r (x:zK):List (AV U):=[.sc (.string x.Name),.sc (.int .i64 x.Kind),.sc (.int .i64 x.zF.Kind),.sc (.int .i64 x.zF.Length),.sc (.int .i64 x.zF.Scale),.sc (.int .i64 x.Value.N),.sc (.string x.Value.S),.sc (.string x.Base),.sc (.int .i64 x.Offset),.sc (.int .i64 x.Target)]
def zur (x:zR):List (AV U):=[.sc (.int .i64 x.Op),.lst (Ty.int .i64) x.Args]
def z1s (x:zX):List (AV U):=[.sc (.int .i64 x.From),.sc (.int .i64 x.To),.sc (.int .i64 x.Exception),.sc (.int .i64 x.Handler)]
def z1q (x:zO):List (AV U):=[.lst Ty.zK x.zV,.lst Ty.zR x.zA,.lst Ty.zX x.yI]
def zox (x:zI):List (AV U):=[.lst Ty.zK x.zO.zV,.lst Ty.zR x.zO.zA,.lst Ty.zX x.zO.yI,.lst (Ty.int .i64) x.layout,.lst Ty.zB x.code]
def zrf (x:zG):List (AV U):=[.lst Ty.Number x.zC.Registers,.sc (.int .i64 x.zC.Condition),.sc (.string x.zC.Storage.Bytes),.lst Ty.bool x.zC.Storage.Tags,.sc (.int .i64 x.zC.At),.lst (Ty.int .i64) x.zC.Stack,.lst Ty.str x.zC.Lines,.sc (.int .i64 x.zC.Status),.sc (.int .i64 x.zC.Exception),.sc (.int .i64 x.zC.Marks),.sc (.int .i64 x.zC.Steps),.sc (.string x.code.Storage.Bytes),.lst Ty.bool x.code.Storage.Tags,.lst Ty.zB x.code.zA,.lst Ty.zT x.code.zS,.sc (.int .i64 x.raised)]
def z5z (x:zY):List (AV U):=[.sc (.int .i64 x.Part),.sc (.int .i64 x.Index)]
def zwl (x:zQ):List (AV U):=[.sc (.bool x.R),.sc (.bool x.A),.sc (.bool x.B),.sc (.bool x.Place),.sc (.bool x.From),.sc (.bool x.Half),.sc (.bool x.Number),.sc (.bool x.zM),.sc (.bool x.Mask),.sc (.bool x.Target),.sc (.bool x.Text),.sc (.bool x.Other),.sc (.bool x.Pointer),.sc (.bool x.Source),.sc (.int .i64 x.zF),.sc (.int .i64 x.Second)]
def zza (x:zL):List (AV U):=[.sc (.bool x.Below),.lst (Ty.int .i64) x.zZ]
def z57 (x:Address):List (AV U):=[.sc (.int .i64 x.yF),.sc (.int .i64 x.Offset)]
def z5y (x:Pointer):List (AV U):=[.sc (.int .i64 x.Kind),.sc (.int .i64 x.Address.yF),.sc (.int .i64 x.Address.Offset),.sc (.int .i64 x.Authority)]
def zuo (x:yA):List (AV U):=[.sc (.int .i64 x.Op),.sc (.int .i64 x.zF.Kind),.sc (.int .i64 x.zF.Length),.sc (.int .i64 x.zF.Scale),.sc (.bool x.Half)]
def zta (x:zW):List (AV U):=[.sc (.bool x.Top.Below),.lst (Ty.int .i64) x.Top.zZ,.lst (Ty.int .i64) x.yM]
def z73 (x:yJ):List (AV U):=[.sc (.int .u64 x.e0),.sc (.int .u64 x.e1),.sc (.int .u64 x.e2),.sc (.int .u64 x.e3)]
def zre (x:yG):List (AV U):=[.sc (.bool x.below),.sc (.int .u64 x.amount.e0),.sc (.int .u64 x.amount.e1),.sc (.int .u64 x.amount.e2),.sc (.int .u64 x.amount.e3),.sc (.int .u64 x.division.e0),.sc (.int .u64 x.division.e1),.sc (.int .u64 x.division.e2),.sc (.int .u64 x.division.e3)]
def zakh:(n:Nat)→z8n n→List (AV U)
 | 0,x=>zup x
 | 1,x=>zpj x
 | 2,x=>zls x
 | 3,x=>z56 x
 | 4,x=>z5x x
 | 5,x=>z54 x
 | 6,x=>z3f x
 | 7,x=>z71 x
 | 8,x=>zjq x
 | 9,x=>z72 x
 | 10,x=>zml x
 | 11,x=>zus x
 | 12,x=>z51 x
 | 13,x=>zabn x
 | 14,x=>z52 x
 | 15,x=>zwm x
 | 16,x=>z3e x
 | 17,x=>zabo x
 | 18,x=>z1r x
 | 19,x=>zur x
 | 20,x=>z1s x
 | 21,x=>z1q x
 | 22,x=>zox x
 | 23,x=>zrf x
 | 24,x=>z5z x
 | 25,x=>zwl x
 | 26,x=>zza x
 | 27,x=>z57 x
 | 28,x=>z5y x
 | 29,x=>zuo x
 | 30,x=>zta x
 | 31,x=>z73 x
 | 32,x=>zre x
 | _+33,_=>[.sc (.bool true)]
def rdSt:(n:Nat)→List (AV U)→Option (z8n n × List (AV U))
 | 0,l=>zpw l
 | 1,l=>zlx l
 | 2,l=>zih l
 | 3,l=>zvm l
 | 4,l=>zpy l
 | 5,l=>zsb l
 | 6,l=>zlp l
 | 7,l=>zyf l
 | 8,l=>zp0 l
 | 9,l=>z2b l
 | 10,l=>zr1 l
 | 11,l=>z2c l
 | 12,l=>zvk l
 | 13,l=>z1b l
 | 14,l=>zvl l
 | 15,l=>zq6 l
 | 16,l=>zxe l
 | 17,l=>z4x l
 | 18,l=>zvi l
 | 19,l=>zpz l
 | 20,l=>zvj l
 | 21,l=>zrn l
 | 22,l=>zla l
 | 23,l=>zny l
 | 24,l=>zz4 l
 | 25,l=>zq5 l
 | 26,l=>zqg l
 | 27,l=>zvn l
 | 28,l=>zz3 l
 | 29,l=>zpt l
 | 30,l=>zo4 l
 | 31,l=>zud l
 | 32,l=>znx l
 | _+33,_=>none
def enc:(t:Ty)→den t→List (AV U)
 | .int k,n=>[.sc (.int k n)]
 | .bool,b=>[.sc (.bool b)]
 | .str,s=>[.sc (.string s)]
 | .nil,_=>[.sc (.slice none 0 0)]
 | .sl t,xs=>[.lst t xs]
 | .st n,x=>zakh n x
def rd:(t:Ty)→List (AV U)→Option (den t × List (AV U))
 | .int k,l=>zb1 k l
 | .bool,l=>zgq l
 | .str,l=>ztr l
 | .nil,l=>rNil l
 | .sl t,l=>rSl t l
 | .st n,l=>rdSt n l
def reify (t:Ty) (l:List (AV U)):Option (den t):=(rd t l).bind fun r=>match r.2 with
 | []=>some r.1
 | _=>none
def szSt:Nat→Nat
 | 0=>2
 | 1=>4
 | 2=>2
 | 3=>3
 | 4=>2
 | 5=>3
 | 6=>3
 | 7=>2
 | 8=>27
 | 9=>4
 | 10=>4
 | 11=>5
 | 12=>11
 | 13=>2
 | 14=>2
 | 15=>13
 | 16=>7
 | 17=>1
 | 18=>10
 | 19=>2
 | 20=>4
 | 21=>3
 | 22=>5
 | 23=>16
 | 24=>2
 | 25=>16
 | 26=>2
 | 27=>2
 | 28=>4
 | 29=>5
 | 30=>3
 | 31=>4
 | 32=>9
 | _+33=>1
def zahb:Nat→Bool
 | 0=>true
 | 1=>true
 | 2=>true
 | 3=>true
 | 4=>false
 | 5=>true
 | 6=>true
 | 7=>true
 | 8=>true
 | 9=>true
 | 10=>false
 | 11=>true
 | 12=>false
 | 13=>true
 | 14=>false
 | 15=>false
 | 16=>false
 | 17=>false
 | 18=>true
 | 19=>false
 | 20=>true
 | 21=>false
 | 22=>false
 | 23=>false
 | 24=>true
 | 25=>true
 | 26=>false
 | 27=>true
 | 28=>true
 | 29=>true
 | 30=>false
 | 31=>true
 | 32=>true
 | _+33=>true
def szT:Ty→Nat
 | .st n=>szSt n
 | _=>1
def aggT:Ty→Bool
 | .st _=>true
 | _=>false
def zad7:Ty→Bool
 | .sl _=>false
 | .st n=>zahb n
 | _=>true
def zad4:List (Nat × Ty):=[(2,(Ty.int .i64)),(3,(Ty.int .i64)),(4,Ty.bool),(5,(Ty.int .u8)),(6,(Ty.int .u8)),(8,Ty.yE),(9,Ty.str),(10,Ty.str),(11,Ty.str),(12,(Ty.int .u64)),(14,Ty.yB),(21,(Ty.int .i32)),(23,Ty.zJ),(24,(Ty.sl Ty.bool)),(26,Ty.Storage),(27,(Ty.sl Ty.zB)),(28,(Ty.sl Ty.zT)),(30,Ty.zH),(34,(Ty.sl (Ty.sl Ty.zD))),(35,(Ty.int .i64)),(39,(Ty.sl Ty.Number)),(40,(Ty.sl (Ty.int .i64))),(41,(Ty.sl Ty.str)),(43,Ty.zC),(45,(Ty.sl Ty.zD)),(47,Ty.DataType),(49,Ty.zD),(54,Ty.Number),(56,Ty.Value),(62,Ty.yC),(64,Ty.Optimization),(70,Ty.yL),(79,Ty.yD),(82,(Ty.sl Ty.zK)),(83,(Ty.sl Ty.zR)),(84,(Ty.sl Ty.zX)),(86,Ty.zO),(89,Ty.zN),(91,Ty.zB),(116,Ty.zT),(137,Ty.zI),(139,Ty.zR),(144,Ty.zK),(163,(Ty.sl (Ty.int .i64))),(174,Ty.zG),(176,(Ty.sl (Ty.int .u8))),(178,Ty.zY),(190,Ty.zX),(193,Ty.zQ),(210,Ty.zL),(220,Ty.Address),(222,Ty.Pointer),(235,Ty.yA),(262,Ty.zU),(279,Ty.zW),(310,(Ty.int .u64)),(348,(Ty.int .u64)),(349,Ty.yJ),(350,Ty.yJ),(352,Ty.yG),(360,(Ty.int .u32)),(370,(Ty.int .i8)),(385,(Ty.int .i64)),(395,(Ty.sl (Ty.sl (Ty.int .u8)))),(398,(Ty.int .u64)),(418,(Ty.int .u8)),(419,(Ty.int .u8)),(421,(Ty.int .i32)),(422,(Ty.int .i32))]
def En:Enc U:={sz:=szT,agg:=aggT,flat:=zad7,enc:=enc,reify:=reify,ofGo:=pick zad4,sl:=Ty.sl,toSl:=fun _ xs=>xs,ofSl:=fun _ xs=>xs,u8:= .int .u8,ofInts:=fun l=>l,toInts:=fun l=>l}
def z9f:List (List Int):=[[0,4],[2,3],[2,3,3],[2,3,3],[2,3,3],[2,3,3],[2,3,3],[1,4,6],[1,4,6],[6],[5,0],[5,5],[5,3],[6],[],[3],[2],[1],[]]
def z9g:List zU:=[⟨41,1⟩,⟨169,1⟩,⟨257,0⟩,⟨3,0⟩,⟨32807,1⟩,⟨6,0⟩,⟨6144,0⟩,⟨6150,0⟩,⟨4096,0⟩,⟨120,2⟩,⟨552,2⟩,⟨120,2⟩,⟨552,2⟩,⟨1536,0⟩,⟨8232,3⟩,⟨24576,0⟩,⟨8193,0⟩,⟨8192,0⟩,⟨4096,0⟩,⟨0,0⟩,⟨1,0⟩,⟨1,0⟩,⟨1,0⟩,⟨40,2⟩,⟨512,0⟩,⟨0,0⟩,⟨0,0⟩]
def globs:List (Nat × AV U):=[(0,.rarr (Ty.sl (Ty.int .i64)) z9f),(1,.rarr Ty.zU z9g)]
def ztv (O:List (Nat × Ct U)) (X:List (Nat × Nat)) (J:List (Nat × Amx.Spec U × List Ty)) (pre:List (Nat × List Nat)) (lits ro pk bj:List Nat):Ctx U:=
 {P:=Proofs.Tryz.prog,En:=En,G:=pick globs,O:=pick O,X:=pick X,joins:=pick J,pre:=fun r=>(pick pre r).getD [],lits:=lits,ro:=ro,pk:=pk,bj:=bj}
theorem zar (k:IntKind):Sp (U:=U) (zb1 k) (fun n:Int=>[.sc (.int k n)]):=fun l x r h=>by
 unfold zb1 at h
 split at h
 · split at h
   · rename_i e;cases h;subst e;exact⟨[_],rfl,F2.refl_ref _⟩
   · cases h
 · cases h
theorem zej:Sp (U:=U) zgq (fun b:Bool=>[.sc (.bool b)]):=fun l x r h=>by
 unfold zgq at h
 split at h
 · cases h;exact⟨[_],rfl,F2.refl_ref _⟩
 · cases h
theorem zqt:Sp (U:=U) ztr (fun s:ByteArray=>[.sc (.string s)]):=fun l x r h=>by
 unfold ztr at h
 split at h
 · cases h;exact⟨[_],rfl,F2.refl_ref _⟩
 · cases h
theorem zage:Sp (U:=U) rNil (fun _:Unit=>[.sc (.slice none 0 0)]):=fun l x r h=>by
 unfold rNil at h
 split at h
 · cases h;exact⟨[_],rfl,F2.refl_ref _⟩
 · cases h
theorem zi4 (t:Ty):Sp (U:=U) (rSl t) (fun xs:List (den t)=>[.lst t xs]):=fun l x r h=>by
 unfold rSl at h
 split at h
 · rw [Option.map_eq_some_iff]at h;obtain⟨⟨e⟩,_,h2⟩:=h;cases e;cases h2;exact⟨[_],rfl,F2.refl_ref _⟩
 · cases h;exact⟨[_],rfl,.cons (.inr ⟨rfl,_,rfl⟩) .nil⟩
 · cases h
theorem zzl:Sp (U:=U) zpw zup:=fun l x r h=>by
 unfold zpw at h
 obtain⟨x0,r0,p0,e0,f0,h⟩:=(zar .i64).step h
 obtain⟨x1,r1,p1,(e1:r0=p1++r1),f1,h⟩:=(zar .i64).step h
 cases h
 exact⟨(p0++p1),by rw [e0,e1];simp only [List.append_assoc],(f0.append f1)⟩
theorem ztn:Sp (U:=U) zlx zpj:=fun l x r h=>by
 unfold zlx at h
 obtain⟨x0,r0,p0,e0,f0,h⟩:=(zar .i64).step h
 obtain⟨x1,r1,p1,(e1:r0=p1++r1),f1,h⟩:=(zar .i64).step h
 obtain⟨x2,r2,p2,(e2:r1=p2++r2),f2,h⟩:=zej.step h
 obtain⟨x3,r3,p3,(e3:r2=p3++r3),f3,h⟩:=(zar .u8).step h
 cases h
 exact⟨(p0++(p1++(p2++p3))),by rw [e0,e1,e2,e3];simp only [List.append_assoc],(f0.append (f1.append (f2.append f3)))⟩
theorem zpp:Sp (U:=U) zih zls:=fun l x r h=>by
 unfold zih at h
 obtain⟨x0,r0,p0,e0,f0,h⟩:=zqt.step h
 obtain⟨x1,r1,p1,(e1:r0=p1++r1),f1,h⟩:=(zar .u64).step h
 cases h
 exact⟨(p0++p1),by rw [e0,e1];simp only [List.append_assoc],(f0.append f1)⟩
theorem z0y:Sp (U:=U) zvm z56:=fun l x r h=>by
 unfold zvm at h
 obtain⟨x0,r0,p0,e0,f0,h⟩:=(zar .i64).step h
 obtain⟨x1,r1,p1,(e1:r0=p1++r1),f1,h⟩:=zej.step h
 obtain⟨x2,r2,p2,(e2:r1=p2++r2),f2,h⟩:=zej.step h
 cases h
 exact⟨(p0++(p1++p2)),by rw [e0,e1,e2];simp only [List.append_assoc],(f0.append (f1.append f2))⟩
theorem zrk:Sp (U:=U) zpy z5x:=fun l x r h=>by
 unfold zpy at h
 obtain⟨x0,r0,p0,e0,f0,h⟩:=zqt.step h
 obtain⟨x1,r1,p1,(e1:r0=p1++r1),f1,h⟩:=(zi4 Ty.bool).step h
 cases h
 exact⟨(p0++p1),by rw [e0,e1];simp only [List.append_assoc],(f0.append f1)⟩
theorem zu8:Sp (U:=U) zsb z54:=fun l x r h=>by
 unfold zsb at h
 obtain⟨x0,r0,p0,e0,f0,h⟩:=zej.step h
 obtain⟨x1,r1,p1,(e1:r0=p1++r1),f1,h⟩:=(zar .i64).step h
 obtain⟨x2,r2,p2,(e2:r1=p2++r2),f2,h⟩:=(zar .i64).step h
 cases h
 exact⟨(p0++(p1++p2)),by rw [e0,e1,e2];simp only [List.append_assoc],(f0.append (f1.append f2))⟩
theorem zmd:Sp (U:=U) zlp z3f:=fun l x r h=>by
 unfold zlp at h
 obtain⟨x0,r0,p0,e0,f0,h⟩:=(zar .i64).step h
 obtain⟨x1,r1,p1,(e1:r0=p1++r1),f1,h⟩:=(zar .i64).step h
 obtain⟨x2,r2,p2,(e2:r1=p2++r2),f2,h⟩:=(zar .i64).step h
 cases h
 exact⟨(p0++(p1++p2)),by rw [e0,e1,e2];simp only [List.append_assoc],(f0.append (f1.append f2))⟩
theorem z2y:Sp (U:=U) zyf z71:=fun l x r h=>by
 unfold zyf at h
 obtain⟨x0,r0,p0,e0,f0,h⟩:=(zar .i64).step h
 obtain⟨x1,r1,p1,(e1:r0=p1++r1),f1,h⟩:=(zar .i64).step h
 cases h
 exact⟨(p0++p1),by rw [e0,e1];simp only [List.append_assoc],(f0.append f1)⟩
theorem zzn:Sp (U:=U) zp0 zjq:=fun l x r h=>by
 unfold zp0 at h
 obtain⟨x0,r0,p0,e0,f0,h⟩:=(zar .i64).step h
 obtain⟨x1,r1,p1,(e1:r0=p1++r1),f1,h⟩:=(zar .i64).step h
 obtain⟨x2,r2,p2,(e2:r1=p2++r2),f2,h⟩:=(zar .i64).step h
 obtain⟨x3,r3,p3,(e3:r2=p3++r3),f3,h⟩:=(zar .i64).step h
 obtain⟨x4,r4,p4,(e4:r3=p4++r4),f4,h⟩:=(zar .i64).step h
 obtain⟨x5,r5,p5,(e5:r4=p5++r5),f5,h⟩:=zu8.step h
 obtain⟨x6,r6,p6,(e6:r5=p6++r6),f6,h⟩:=zu8.step h
 obtain⟨x7,r7,p7,(e7:r6=p7++r7),f7,h⟩:=zmd.step h
 obtain⟨x8,r8,p8,(e8:r7=p8++r8),f8,h⟩:=zmd.step h
 obtain⟨x9,r9,p9,(e9:r8=p9++r9),f9,h⟩:=zej.step h
 obtain⟨x10,r10,p10,(e10:r9=p10++r10),f10,h⟩:=zej.step h
 obtain⟨x11,r11,p11,(e11:r10=p11++r11),f11,h⟩:=z2y.step h
 obtain⟨x12,r12,p12,(e12:r11=p12++r12),f12,h⟩:=zqt.step h
 obtain⟨x13,r13,p13,(e13:r12=p13++r13),f13,h⟩:=zqt.step h
 obtain⟨x14,r14,p14,(e14:r13=p14++r14),f14,h⟩:=(zar .i64).step h
 obtain⟨x15,r15,p15,(e15:r14=p15++r15),f15,h⟩:=(zar .i64).step h
 obtain⟨x16,r16,p16,(e16:r15=p16++r16),f16,h⟩:=(zar .i64).step h
 obtain⟨x17,r17,p17,(e17:r16=p17++r17),f17,h⟩:=(zar .i64).step h
 cases h
 exact⟨(p0++(p1++(p2++(p3++(p4++(p5++(p6++(p7++(p8++(p9++(p10++(p11++(p12++(p13++(p14++(p15++(p16++p17))))))))))))))))),by rw [e0,e1,e2,e3,e4,e5,e6,e7,e8,e9,e10,e11,e12,e13,e14,e15,e16,e17];simp only [List.append_assoc],(f0.append (f1.append (f2.append (f3.append (f4.append (f5.append (f6.append (f7.append (f8.append (f9.append (f10.append (f11.append (f12.append (f13.append (f14.append (f15.append (f16.append f17)))))))))))))))))⟩
theorem zaac:Sp (U:=U) z2b z72:=fun l x r h=>by
 unfold z2b at h
 obtain⟨x0,r0,p0,e0,f0,h⟩:=(zar .i64).step h
 obtain⟨x1,r1,p1,(e1:r0=p1++r1),f1,h⟩:=(zar .i64).step h
 obtain⟨x2,r2,p2,(e2:r1=p2++r2),f2,h⟩:=(zar .i64).step h
 obtain⟨x3,r3,p3,(e3:r2=p3++r3),f3,h⟩:=(zar .i64).step h
 cases h
 exact⟨(p0++(p1++(p2++p3))),by rw [e0,e1,e2,e3];simp only [List.append_assoc],(f0.append (f1.append (f2.append f3)))⟩
theorem zsv:Sp (U:=U) zr1 zml:=fun l x r h=>by
 unfold zr1 at h
 obtain⟨x0,r0,p0,e0,f0,h⟩:=zrk.step h
 obtain⟨x1,r1,p1,(e1:r0=p1++r1),f1,h⟩:=(zi4 Ty.zB).step h
 obtain⟨x2,r2,p2,(e2:r1=p2++r2),f2,h⟩:=(zi4 Ty.zT).step h
 cases h
 exact⟨(p0++(p1++p2)),by rw [e0,e1,e2];simp only [List.append_assoc],(f0.append (f1.append f2))⟩
theorem zaad:Sp (U:=U) z2c zus:=fun l x r h=>by
 unfold z2c at h
 obtain⟨x0,r0,p0,e0,f0,h⟩:=(zar .i64).step h
 obtain⟨x1,r1,p1,(e1:r0=p1++r1),f1,h⟩:=zmd.step h
 obtain⟨x2,r2,p2,(e2:r1=p2++r2),f2,h⟩:=(zar .i64).step h
 cases h
 exact⟨(p0++(p1++p2)),by rw [e0,e1,e2];simp only [List.append_assoc],(f0.append (f1.append f2))⟩
theorem z0w:Sp (U:=U) zvk z51:=fun l x r h=>by
 unfold zvk at h
 obtain⟨x0,r0,p0,e0,f0,h⟩:=(zi4 Ty.Number).step h
 obtain⟨x1,r1,p1,(e1:r0=p1++r1),f1,h⟩:=(zar .i64).step h
 obtain⟨x2,r2,p2,(e2:r1=p2++r2),f2,h⟩:=zrk.step h
 obtain⟨x3,r3,p3,(e3:r2=p3++r3),f3,h⟩:=(zar .i64).step h
 obtain⟨x4,r4,p4,(e4:r3=p4++r4),f4,h⟩:=(zi4 (Ty.int .i64)).step h
 obtain⟨x5,r5,p5,(e5:r4=p5++r5),f5,h⟩:=(zi4 Ty.str).step h
 obtain⟨x6,r6,p6,(e6:r5=p6++r6),f6,h⟩:=(zar .i64).step h
 obtain⟨x7,r7,p7,(e7:r6=p7++r7),f7,h⟩:=(zar .i64).step h
 obtain⟨x8,r8,p8,(e8:r7=p8++r8),f8,h⟩:=(zar .i64).step h
 obtain⟨x9,r9,p9,(e9:r8=p9++r9),f9,h⟩:=(zar .i64).step h
 cases h
 exact⟨(p0++(p1++(p2++(p3++(p4++(p5++(p6++(p7++(p8++p9))))))))),by rw [e0,e1,e2,e3,e4,e5,e6,e7,e8,e9];simp only [List.append_assoc],(f0.append (f1.append (f2.append (f3.append (f4.append (f5.append (f6.append (f7.append (f8.append f9)))))))))⟩
theorem z4e:Sp (U:=U) z1b zabn:=fun l x r h=>by
 unfold z1b at h
 obtain⟨x0,r0,p0,e0,f0,h⟩:=(zar .i64).step h
 obtain⟨x1,r1,p1,(e1:r0=p1++r1),f1,h⟩:=zqt.step h
 cases h
 exact⟨(p0++p1),by rw [e0,e1];simp only [List.append_assoc],(f0.append f1)⟩
theorem z0x:Sp (U:=U) zvl z52:=fun l x r h=>by
 unfold zvl at h
 obtain⟨x0,r0,p0,e0,f0,h⟩:=(zi4 (Ty.sl Ty.zD)).step h
 obtain⟨x1,r1,p1,(e1:r0=p1++r1),f1,h⟩:=(zi4 (Ty.int .i64)).step h
 cases h
 exact⟨(p0++p1),by rw [e0,e1];simp only [List.append_assoc],(f0.append f1)⟩
theorem z0v:Sp (U:=U) zq6 zwm:=fun l x r h=>by
 unfold zq6 at h
 obtain⟨x0,r0,p0,e0,f0,h⟩:=z0y.step h
 obtain⟨x1,r1,p1,(e1:r0=p1++r1),f1,h⟩:=zsv.step h
 obtain⟨x2,r2,p2,(e2:r1=p2++r2),f2,h⟩:=zsv.step h
 obtain⟨x3,r3,p3,(e3:r2=p3++r3),f3,h⟩:=z0x.step h
 cases h
 exact⟨(p0++(p1++(p2++p3))),by rw [e0,e1,e2,e3];simp only [List.append_assoc],(f0.append (f1.append (f2.append f3)))⟩
theorem z6u:Sp (U:=U) zxe z3e:=fun l x r h=>by
 unfold zxe at h
 obtain⟨x0,r0,p0,e0,f0,h⟩:=(zi4 Ty.str).step h
 obtain⟨x1,r1,p1,(e1:r0=p1++r1),f1,h⟩:=(zar .i64).step h
 obtain⟨x2,r2,p2,(e2:r1=p2++r2),f2,h⟩:=(zar .i64).step h
 obtain⟨x3,r3,p3,(e3:r2=p3++r3),f3,h⟩:=(zar .i64).step h
 obtain⟨x4,r4,p4,(e4:r3=p4++r4),f4,h⟩:=(zar .i64).step h
 obtain⟨x5,r5,p5,(e5:r4=p5++r5),f5,h⟩:=zrk.step h
 cases h
 exact⟨(p0++(p1++(p2++(p3++(p4++p5))))),by rw [e0,e1,e2,e3,e4,e5];simp only [List.append_assoc],(f0.append (f1.append (f2.append (f3.append (f4.append f5)))))⟩
theorem zacg:Sp (U:=U) z4x zabo:=fun l x r h=>by
 unfold z4x at h
 obtain⟨x0,r0,p0,e0,f0,h⟩:=(zi4 (Ty.int .i64)).step h
 cases h
 exact⟨p0,by rw [e0],f0⟩
theorem z4f:Sp (U:=U) zvi z1r:=fun l x r h=>by
 unfold zvi at h
 obtain⟨x0,r0,p0,e0,f0,h⟩:=zqt.step h
 obtain⟨x1,r1,p1,(e1:r0=p1++r1),f1,h⟩:=(zar .i64).step h
 obtain⟨x2,r2,p2,(e2:r1=p2++r2),f2,h⟩:=zmd.step h
 obtain⟨x3,r3,p3,(e3:r2=p3++r3),f3,h⟩:=z4e.step h
 obtain⟨x4,r4,p4,(e4:r3=p4++r4),f4,h⟩:=zqt.step h
 obtain⟨x5,r5,p5,(e5:r4=p5++r5),f5,h⟩:=(zar .i64).step h
 obtain⟨x6,r6,p6,(e6:r5=p6++r6),f6,h⟩:=(zar .i64).step h
 cases h
 exact⟨(p0++(p1++(p2++(p3++(p4++(p5++p6)))))),by rw [e0,e1,e2,e3,e4,e5,e6];simp only [List.append_assoc],(f0.append (f1.append (f2.append (f3.append (f4.append (f5.append f6))))))⟩
theorem zzm:Sp (U:=U) zpz zur:=fun l x r h=>by
 unfold zpz at h
 obtain⟨x0,r0,p0,e0,f0,h⟩:=(zar .i64).step h
 obtain⟨x1,r1,p1,(e1:r0=p1++r1),f1,h⟩:=(zi4 (Ty.int .i64)).step h
 cases h
 exact⟨(p0++p1),by rw [e0,e1];simp only [List.append_assoc],(f0.append f1)⟩
theorem z4g:Sp (U:=U) zvj z1s:=fun l x r h=>by
 unfold zvj at h
 obtain⟨x0,r0,p0,e0,f0,h⟩:=(zar .i64).step h
 obtain⟨x1,r1,p1,(e1:r0=p1++r1),f1,h⟩:=(zar .i64).step h
 obtain⟨x2,r2,p2,(e2:r1=p2++r2),f2,h⟩:=(zar .i64).step h
 obtain⟨x3,r3,p3,(e3:r2=p3++r3),f3,h⟩:=(zar .i64).step h
 cases h
 exact⟨(p0++(p1++(p2++p3))),by rw [e0,e1,e2,e3];simp only [List.append_assoc],(f0.append (f1.append (f2.append f3)))⟩
theorem zww:Sp (U:=U) zrn z1q:=fun l x r h=>by
 unfold zrn at h
 obtain⟨x0,r0,p0,e0,f0,h⟩:=(zi4 Ty.zK).step h
 obtain⟨x1,r1,p1,(e1:r0=p1++r1),f1,h⟩:=(zi4 Ty.zR).step h
 obtain⟨x2,r2,p2,(e2:r1=p2++r2),f2,h⟩:=(zi4 Ty.zX).step h
 cases h
 exact⟨(p0++(p1++p2)),by rw [e0,e1,e2];simp only [List.append_assoc],(f0.append (f1.append f2))⟩
theorem zsq:Sp (U:=U) zla zox:=fun l x r h=>by
 unfold zla at h
 obtain⟨x0,r0,p0,e0,f0,h⟩:=zww.step h
 obtain⟨x1,r1,p1,(e1:r0=p1++r1),f1,h⟩:=(zi4 (Ty.int .i64)).step h
 obtain⟨x2,r2,p2,(e2:r1=p2++r2),f2,h⟩:=(zi4 Ty.zB).step h
 cases h
 exact⟨(p0++(p1++p2)),by rw [e0,e1,e2];simp only [List.append_assoc],(f0.append (f1.append f2))⟩
theorem zwq:Sp (U:=U) zny zrf:=fun l x r h=>by
 unfold zny at h
 obtain⟨x0,r0,p0,e0,f0,h⟩:=z0w.step h
 obtain⟨x1,r1,p1,(e1:r0=p1++r1),f1,h⟩:=zsv.step h
 obtain⟨x2,r2,p2,(e2:r1=p2++r2),f2,h⟩:=(zar .i64).step h
 cases h
 exact⟨(p0++(p1++p2)),by rw [e0,e1,e2];simp only [List.append_assoc],(f0.append (f1.append f2))⟩
theorem z8p:Sp (U:=U) zz4 z5z:=fun l x r h=>by
 unfold zz4 at h
 obtain⟨x0,r0,p0,e0,f0,h⟩:=(zar .i64).step h
 obtain⟨x1,r1,p1,(e1:r0=p1++r1),f1,h⟩:=(zar .i64).step h
 cases h
 exact⟨(p0++p1),by rw [e0,e1];simp only [List.append_assoc],(f0.append f1)⟩
theorem z0u:Sp (U:=U) zq5 zwl:=fun l x r h=>by
 unfold zq5 at h
 obtain⟨x0,r0,p0,e0,f0,h⟩:=zej.step h
 obtain⟨x1,r1,p1,(e1:r0=p1++r1),f1,h⟩:=zej.step h
 obtain⟨x2,r2,p2,(e2:r1=p2++r2),f2,h⟩:=zej.step h
 obtain⟨x3,r3,p3,(e3:r2=p3++r3),f3,h⟩:=zej.step h
 obtain⟨x4,r4,p4,(e4:r3=p4++r4),f4,h⟩:=zej.step h
 obtain⟨x5,r5,p5,(e5:r4=p5++r5),f5,h⟩:=zej.step h
 obtain⟨x6,r6,p6,(e6:r5=p6++r6),f6,h⟩:=zej.step h
 obtain⟨x7,r7,p7,(e7:r6=p7++r7),f7,h⟩:=zej.step h
 obtain⟨x8,r8,p8,(e8:r7=p8++r8),f8,h⟩:=zej.step h
 obtain⟨x9,r9,p9,(e9:r8=p9++r9),f9,h⟩:=zej.step h
 obtain⟨x10,r10,p10,(e10:r9=p10++r10),f10,h⟩:=zej.step h
 obtain⟨x11,r11,p11,(e11:r10=p11++r11),f11,h⟩:=zej.step h
 obtain⟨x12,r12,p12,(e12:r11=p12++r12),f12,h⟩:=zej.step h
 obtain⟨x13,r13,p13,(e13:r12=p13++r13),f13,h⟩:=zej.step h
 obtain⟨x14,r14,p14,(e14:r13=p14++r14),f14,h⟩:=(zar .i64).step h
 obtain⟨x15,r15,p15,(e15:r14=p15++r15),f15,h⟩:=(zar .i64).step h
 cases h
 exact⟨(p0++(p1++(p2++(p3++(p4++(p5++(p6++(p7++(p8++(p9++(p10++(p11++(p12++(p13++(p14++p15))))))))))))))),by rw [e0,e1,e2,e3,e4,e5,e6,e7,e8,e9,e10,e11,e12,e13,e14,e15];simp only [List.append_assoc],(f0.append (f1.append (f2.append (f3.append (f4.append (f5.append (f6.append (f7.append (f8.append (f9.append (f10.append (f11.append (f12.append (f13.append (f14.append f15)))))))))))))))⟩
theorem zwg:Sp (U:=U) zqg zza:=fun l x r h=>by
 unfold zqg at h
 obtain⟨x0,r0,p0,e0,f0,h⟩:=zej.step h
 obtain⟨x1,r1,p1,(e1:r0=p1++r1),f1,h⟩:=(zi4 (Ty.int .i64)).step h
 cases h
 exact⟨(p0++p1),by rw [e0,e1];simp only [List.append_assoc],(f0.append f1)⟩
theorem z0z:Sp (U:=U) zvn z57:=fun l x r h=>by
 unfold zvn at h
 obtain⟨x0,r0,p0,e0,f0,h⟩:=(zar .i64).step h
 obtain⟨x1,r1,p1,(e1:r0=p1++r1),f1,h⟩:=(zar .i64).step h
 cases h
 exact⟨(p0++p1),by rw [e0,e1];simp only [List.append_assoc],(f0.append f1)⟩
theorem z8o:Sp (U:=U) zz3 z5y:=fun l x r h=>by
 unfold zz3 at h
 obtain⟨x0,r0,p0,e0,f0,h⟩:=(zar .i64).step h
 obtain⟨x1,r1,p1,(e1:r0=p1++r1),f1,h⟩:=z0z.step h
 obtain⟨x2,r2,p2,(e2:r1=p2++r2),f2,h⟩:=(zar .i64).step h
 cases h
 exact⟨(p0++(p1++p2)),by rw [e0,e1,e2];simp only [List.append_assoc],(f0.append (f1.append f2))⟩
theorem zzk:Sp (U:=U) zpt zuo:=fun l x r h=>by
 unfold zpt at h
 obtain⟨x0,r0,p0,e0,f0,h⟩:=(zar .i64).step h
 obtain⟨x1,r1,p1,(e1:r0=p1++r1),f1,h⟩:=zmd.step h
 obtain⟨x2,r2,p2,(e2:r1=p2++r2),f2,h⟩:=zej.step h
 cases h
 exact⟨(p0++(p1++p2)),by rw [e0,e1,e2];simp only [List.append_assoc],(f0.append (f1.append f2))⟩
theorem zyq:Sp (U:=U) zo4 zta:=fun l x r h=>by
 unfold zo4 at h
 obtain⟨x0,r0,p0,e0,f0,h⟩:=zwg.step h
 obtain⟨x1,r1,p1,(e1:r0=p1++r1),f1,h⟩:=(zi4 (Ty.int .i64)).step h
 cases h
 exact⟨(p0++p1),by rw [e0,e1];simp only [List.append_assoc],(f0.append f1)⟩
theorem zwx:Sp (U:=U) zud z73:=fun l x r h=>by
 unfold zud at h
 obtain⟨x0,r0,p0,e0,f0,h⟩:=(zar .u64).step h
 obtain⟨x1,r1,p1,(e1:r0=p1++r1),f1,h⟩:=(zar .u64).step h
 obtain⟨x2,r2,p2,(e2:r1=p2++r2),f2,h⟩:=(zar .u64).step h
 obtain⟨x3,r3,p3,(e3:r2=p3++r3),f3,h⟩:=(zar .u64).step h
 cases h
 exact⟨(p0++(p1++(p2++p3))),by rw [e0,e1,e2,e3];simp only [List.append_assoc],(f0.append (f1.append (f2.append f3)))⟩
theorem zwp:Sp (U:=U) znx zre:=fun l x r h=>by
 unfold znx at h
 obtain⟨x0,r0,p0,e0,f0,h⟩:=zej.step h
 obtain⟨x1,r1,p1,(e1:r0=p1++r1),f1,h⟩:=zwx.step h
 obtain⟨x2,r2,p2,(e2:r1=p2++r2),f2,h⟩:=zwx.step h
 cases h
 exact⟨(p0++(p1++p2)),by rw [e0,e1,e2];simp only [List.append_assoc],(f0.append (f1.append f2))⟩
theorem sp:∀t:Ty,Sp (U:=U) (rd t) (enc t)
 | .int k=>zar k
 | .bool=>zej
 | .str=>zqt
 | .nil=>zage
 | .sl t=>zi4 t
 | .st 0=>zzl
 | .st 1=>ztn
 | .st 2=>zpp
 | .st 3=>z0y
 | .st 4=>zrk
 | .st 5=>zu8
 | .st 6=>zmd
 | .st 7=>z2y
 | .st 8=>zzn
 | .st 9=>zaac
 | .st 10=>zsv
 | .st 11=>zaad
 | .st 12=>z0w
 | .st 13=>z4e
 | .st 14=>z0x
 | .st 15=>z0v
 | .st 16=>z6u
 | .st 17=>zacg
 | .st 18=>z4f
 | .st 19=>zzm
 | .st 20=>z4g
 | .st 21=>zww
 | .st 22=>zsq
 | .st 23=>zwq
 | .st 24=>z8p
 | .st 25=>z0u
 | .st 26=>zwg
 | .st 27=>z0z
 | .st 28=>z8o
 | .st 29=>zzk
 | .st 30=>zyq
 | .st 31=>zwx
 | .st 32=>zwp
 | .st (_+33)=>fun l x r h=>by cases h
theorem zadx:∀(t:Ty) (x:den t),(enc t x).length=szT t
 | .int _,_=>rfl
 | .bool,_=>rfl
 | .str,_=>rfl
 | .nil,_=>rfl
 | .sl _,_=>rfl
 | .st 0,_=>rfl
 | .st 1,_=>rfl
 | .st 2,_=>rfl
 | .st 3,_=>rfl
 | .st 4,_=>rfl
 | .st 5,_=>rfl
 | .st 6,_=>rfl
 | .st 7,_=>rfl
 | .st 8,_=>rfl
 | .st 9,_=>rfl
 | .st 10,_=>rfl
 | .st 11,_=>rfl
 | .st 12,_=>rfl
 | .st 13,_=>rfl
 | .st 14,_=>rfl
 | .st 15,_=>rfl
 | .st 16,_=>rfl
 | .st 17,_=>rfl
 | .st 18,_=>rfl
 | .st 19,_=>rfl
 | .st 20,_=>rfl
 | .st 21,_=>rfl
 | .st 22,_=>rfl
 | .st 23,_=>rfl
 | .st 24,_=>rfl
 | .st 25,_=>rfl
 | .st 26,_=>rfl
 | .st 27,_=>rfl
 | .st 28,_=>rfl
 | .st 29,_=>rfl
 | .st 30,_=>rfl
 | .st 31,_=>rfl
 | .st 32,_=>rfl
 | .st (_+33),_=>rfl
theorem zagt:∀t:Ty,0<szT t
 | .int _=>Nat.one_pos
 | .bool=>Nat.one_pos
 | .str=>Nat.one_pos
 | .nil=>Nat.one_pos
 | .sl _=>Nat.one_pos
 | .st 0=>(by decide:0<2)
 | .st 1=>(by decide:0<4)
 | .st 2=>(by decide:0<2)
 | .st 3=>(by decide:0<3)
 | .st 4=>(by decide:0<2)
 | .st 5=>(by decide:0<3)
 | .st 6=>(by decide:0<3)
 | .st 7=>(by decide:0<2)
 | .st 8=>(by decide:0<27)
 | .st 9=>(by decide:0<4)
 | .st 10=>(by decide:0<4)
 | .st 11=>(by decide:0<5)
 | .st 12=>(by decide:0<11)
 | .st 13=>(by decide:0<2)
 | .st 14=>(by decide:0<2)
 | .st 15=>(by decide:0<13)
 | .st 16=>(by decide:0<7)
 | .st 17=>(by decide:0<1)
 | .st 18=>(by decide:0<10)
 | .st 19=>(by decide:0<2)
 | .st 20=>(by decide:0<4)
 | .st 21=>(by decide:0<3)
 | .st 22=>(by decide:0<5)
 | .st 23=>(by decide:0<16)
 | .st 24=>(by decide:0<2)
 | .st 25=>(by decide:0<16)
 | .st 26=>(by decide:0<2)
 | .st 27=>(by decide:0<2)
 | .st 28=>(by decide:0<4)
 | .st 29=>(by decide:0<5)
 | .st 30=>(by decide:0<3)
 | .st 31=>(by decide:0<4)
 | .st 32=>(by decide:0<9)
 | .st (_+33)=>Nat.one_pos
theorem zajz:∀(t:Ty) (x:den t),(enc t x).all (fzc (U:=U))=true
 | .int _,_=>rfl
 | .bool,_=>rfl
 | .str,_=>rfl
 | .nil,_=>rfl
 | .sl _,_=>rfl
 | .st 0,_=>rfl
 | .st 1,_=>rfl
 | .st 2,_=>rfl
 | .st 3,_=>rfl
 | .st 4,_=>rfl
 | .st 5,_=>rfl
 | .st 6,_=>rfl
 | .st 7,_=>rfl
 | .st 8,_=>rfl
 | .st 9,_=>rfl
 | .st 10,_=>rfl
 | .st 11,_=>rfl
 | .st 12,_=>rfl
 | .st 13,_=>rfl
 | .st 14,_=>rfl
 | .st 15,_=>rfl
 | .st 16,_=>rfl
 | .st 17,_=>rfl
 | .st 18,_=>rfl
 | .st 19,_=>rfl
 | .st 20,_=>rfl
 | .st 21,_=>rfl
 | .st 22,_=>rfl
 | .st 23,_=>rfl
 | .st 24,_=>rfl
 | .st 25,_=>rfl
 | .st 26,_=>rfl
 | .st 27,_=>rfl
 | .st 28,_=>rfl
 | .st 29,_=>rfl
 | .st 30,_=>rfl
 | .st 31,_=>rfl
 | .st 32,_=>rfl
 | .st (_+33),_=>rfl
theorem zafb:∀t:Ty,zad7 t=true→∀x:den t,(enc t x).all (zaae (U:=U))=true
 | .int _,_,_=>rfl
 | .bool,_,_=>rfl
 | .str,_,_=>rfl
 | .nil,_,_=>rfl
 | .sl _,h,_=>by cases h
 | .st 0,_,_=>rfl
 | .st 1,_,_=>rfl
 | .st 2,_,_=>rfl
 | .st 3,_,_=>rfl
 | .st 4,h,_=>by cases h
 | .st 5,_,_=>rfl
 | .st 6,_,_=>rfl
 | .st 7,_,_=>rfl
 | .st 8,_,_=>rfl
 | .st 9,_,_=>rfl
 | .st 10,h,_=>by cases h
 | .st 11,_,_=>rfl
 | .st 12,h,_=>by cases h
 | .st 13,_,_=>rfl
 | .st 14,h,_=>by cases h
 | .st 15,h,_=>by cases h
 | .st 16,h,_=>by cases h
 | .st 17,h,_=>by cases h
 | .st 18,_,_=>rfl
 | .st 19,h,_=>by cases h
 | .st 20,_,_=>rfl
 | .st 21,h,_=>by cases h
 | .st 22,h,_=>by cases h
 | .st 23,h,_=>by cases h
 | .st 24,_,_=>rfl
 | .st 25,_,_=>rfl
 | .st 26,h,_=>by cases h
 | .st 27,_,_=>rfl
 | .st 28,_,_=>rfl
 | .st 29,_,_=>rfl
 | .st 30,h,_=>by cases h
 | .st 31,_,_=>rfl
 | .st 32,_,_=>rfl
 | .st (_+33),_,_=>rfl
theorem zagx:∀t:Ty,aggT t=false→szT t=1
 | .int _,_=>rfl
 | .bool,_=>rfl
 | .str,_=>rfl
 | .nil,_=>rfl
 | .sl _,_=>rfl
 | .st _,h=>by cases h
theorem znr:ELaws En where
 sz:=zadx
 pos:=zagt
 fz:=fun t x c hc=>zadd (z8b (zajz t x) hc)
 one:=zagx
 reify:=fun t cs x h=>by
  have h':reify t cs=some x:=h;unfold reify at h';rw [Option.bind_eq_some_iff]at h';obtain⟨⟨y,r⟩,h1,h2⟩:=h';cases r with
  | cons=>cases h2
  | nil=>
   cases h2;obtain⟨p,e,f⟩:=sp t cs _ _ h1;rw [List.append_nil]at e;subst e;exact⟨f.length.trans (zadx t _),fun j c c' g1 g2=>f.get j c c' g1 g2⟩
 flat:=fun t ht x c hc=>z6z (z8b (zafb t ht x) hc)
 slAgg:=fun _=>rfl
 slEnc:=fun _ _=>rfl
 ofTo:=fun _ _=>rfl
 u8sz:=rfl
 u8:=fun x=>⟨x,rfl⟩
 toInts:=fun xs i x n h1 h2=>by cases h2;exact h1
 toIntsLen:=fun _=>rfl
 ofInts:=fun l i n h=>⟨n,h,rfl⟩
 ofIntsLen:=fun _=>rfl
theorem z3x {O:List (Nat × Ct U)} {X:List (Nat × Nat)} {J:List (Nat × Amx.Spec U × List Ty)} {pre:List (Nat × List Nat)} {lits ro pk bj:List Nat}:CLaws (ztv O X J pre lits ro pk bj):=
 zadk znr (l:=zad4) rfl (by kernel_rfl)
def ctv (ps:List (Md U)) (res outs:List Ty) (fr:List Nat) (ts:List Ty) (f:Fnc U ts (PT U (res++outs))):Ct U:={params:=ps,results:=res,outs:=outs,fresh:=fr,fn:=app U ts f}
def cvv (res ts:List Ty) (f:Fnc U ts (PT U (res++[]))):Ct U:=ctv (ts.map .val) res [] [] ts f
def K0:Ctx U:=ztv [] [] [] [] [] [] [] []
@[reducible] def Kq:Type:=Kp K0
structure Cf where
 X:List (Nat × Nat):=[]
 J:List (Nat × Amx.Spec U × List Ty):=[]
 pre:List (Nat × List Nat):=[]
 lits:List Nat:=[]
 ro:List Nat:=[]
 pk:List Nat:=[]
 bj:List Nat:=[]
def cxo (l:List Kq) (c:Cf):Ctx U:=ztv (Osk l) c.X c.J c.pre c.lits c.ro c.pk c.bj
theorem go (l:List Kq) (c:Cf) {f:FuncId} {fn:Func} {ps:List (Md U)} {res outs:List Ty} {fr:List Nat} {ts:List Ty} {F:Fnc U ts (PT U (res++outs))} (L:List (Nat × Cut U (PT U ((ctv ps res outs fr ts F).results++(ctv ps res outs fr ts F).outs)))) (hf:Proofs.Tryz.prog.funcs[f]?=some fn) (hn:((fn.name== "runtime.NumGoroutine")|| !fn.body.isSome)=false:=by kernel_rfl)
 (hok:z1p (cxo l c) (ctv ps res outs fr ts F)=fun _=>true:=by kernel_rfl) (hr:(cur ts (runF (cxo l c) fn (ctv ps res outs fr ts F) (pick L)):Fnc U ts (PT U (res++outs)))=F:=by kernel_rfl) (hL:Ls (cxo l c) fn (ctv ps res outs fr ts F) (pick L) L:=by exact trivial) (hX:∀p∈c.X,XOK1 Proofs.Tryz.prog p:=by exact all_nil):ziv K0 f (ctv ps res outs fr ts F):=by
 rw [Bool.or_eq_false_iff]at hn
 exact ziv.ctx (C:=cxo l c) (C':=K0) rfl rfl rfl (zaa5 (C:=cxo l c) z3x (zajb (C:=cxo l c) (C0:=K0) (l:=l) rfl rfl rfl rfl) (z31 (l:=c.X) rfl hX) hf hn.1 (by simpa using hn.2) (zag0 rfl hL) (fun y=>congrFun hok y) (zafk hr))
end
end Go.Proofs.YtbmfjmakahmclaaGreatDoor.M
