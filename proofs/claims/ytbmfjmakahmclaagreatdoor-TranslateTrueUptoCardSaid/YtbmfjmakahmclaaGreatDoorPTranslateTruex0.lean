/- The plain law of TranslateTrue: part 0. -/
import Derived.Test.YtbmfjmakahmclaaGreatDoorF2
import Derived.Test.YtbmfjmakahmclaaGreatDoorA4
import Derived.Lib.Strings
namespace Go.Proofs.YtbmfjmakahmclaaGreatDoor.M
open Go Go.Amx
set_option linter.unusedVariables false
set_option linter.unusedSimpArgs false
set_option maxRecDepth 100000
noncomputable section
theorem obs {α β:Type} (a:α) (f:α→Option β):(some a).bind f=f a:=rfl
theorem dct {p:Prop} [Decidable p] (h:p):decide p=true:=decide_eq_true h
theorem dcf {p:Prop} [Decidable p] (h:¬p):decide p=false:=decide_eq_false h
theorem lna {α:Type} {a b:List α}:(a++b).length=a.length+b.length:=List.length_append
theorem lns {α:Type} {a:α}:[a].length=1:=List.length_singleton
theorem lge {α:Type} {l:List α} {i:Nat} (h:i<l.length):l[i]?=some l[i]:=List.getElem?_eq_getElem h
theorem itn (n:Nat):Int.toNat (n:Int)=n:=Int.toNat_natCast n
theorem ctr {α:Sort _} (a b:α):cond true a b=a:=rfl
theorem cfa {α:Sort _} (a b:α):cond false a b=b:=rfl
theorem ifp {c:Prop} {h:Decidable c} (hc:c:=by omega) {α:Sort _} {t e:α}:ite c t e=t:=if_pos hc
theorem ifn {c:Prop} {h:Decidable c} (hc:¬c:=by omega) {α:Sort _} {t e:α}:ite c t e=e:=if_neg hc
theorem bsf {α:Type _} [BEq α] [LawfulBEq α] (a:α):(a !=a)=false:=bne_self_eq_false a
theorem tde {a b:Int} (h:0≤a:=by omega):a.tdiv b=a/b:=Int.tdiv_eq_ediv_of_nonneg h
theorem tme {a b:Int} (h:0≤a:=by omega):a.tmod b=a%b:=Int.tmod_eq_emod_of_nonneg h
theorem lnt {α:Type _} {i:Nat} {l:List α}:(l.take i).length=min i l.length:=List.length_take
theorem lnr {α:Type _} {n:Nat} {a:α}:(List.replicate n a).length=n:=List.length_replicate
theorem gdd {α:Type _} {l:List α} {i:Nat} {a:α}:l.getD i a=l[i]?.getD a:=List.getD_eq_getElem?_getD
theorem cbc {p:Prop} (h:¬p→False):p:=Classical.byContradiction h
theorem lnc {α:Type _} {a:α} {l:List α}:(a::l).length=l.length+1:=List.length_cons
theorem gei {α:Type _} {i:Nat} {a:α} {l:List α} (h:l[i]?=some a):∃h:i<l.length,l[i]=a:=List.getElem?_eq_some_iff.1 h
theorem eof {α β:Type _} {b:β} {f:α→Option β} {l:List α} (h:l.findSome? f=some b):∃a,a∈l∧f a=some b:=List.exists_of_findSome?_eq_some h
theorem ln0 {α:Type _}:([]:List α).length=0:=rfl
theorem lnm {α β:Type _} {l:List α} (f:α→β):(l.map f).length=l.length:=List.length_map f
theorem dr0 {α:Type _} {l:List α}:l.drop 0=l:=rfl
theorem bsa {a b:ByteArray}:(a++b).size=a.size+b.size:=ByteArray.size_append
theorem bnt:(!true)=false:=rfl
theorem mel {a b:Nat} (h:a<b):a%b=a:=Nat.mod_eq_of_lt h
theorem nc0:((0:Nat):Int)=0:=Int.natCast_zero
theorem bst {α:Type _} [BEq α] [ReflBEq α] (a:α):(a==a)=true:=beq_self_eq_true a
theorem lmg {α:Type _} {l:List α} {i:Nat} {a:α} (h:l[i]?=some a):a∈l:=List.mem_of_getElem? h
theorem w6e {n:Int} (h1: -9223372036854775808≤n:=by omega) (h2:n≤9223372036854775807:=by omega):w6 n=n:=zaf8 h1 h2
def zqs (N:Nat) (a0:Storage) (a1:Int):Option (Pointer × Int):=zf8 N a0 a1
def zad (a0:zG) (a1:Bool) (a2:Int):Option (Bool × zG):=
 (cond a1 (some (a0.raised==0)) (some false)).bind fun g1=>cond g1 (some ((a2==0),(⟨a0.zC,a0.code,a2⟩:zG))) (some ((a0.raised==0),a0))
def zc2 (N:Nat) (a0:zG) (a1:Int):Option (Pointer × Bool × zG):=
 (zqs N a0.zC.Storage a1).bind fun r1=>(zad a0 (r1.2 !=0) 4).bind fun r2=>some (r1.1,r2.1,r2.2)
def zdy (N:Nat) (a0:zG) (a1:zN) (a2:Int):Option (Int × Bool × zG):=
 cond (!a1.Based) (some (a1.Offset,true,a0)) ((zc2 N a0 a1.Pointer).bind fun r1=>cond (!r1.2.1) (some (0,false,r1.2.2))
  ((zad r1.2.2 (decide ((w6 (r1.1.Address.Offset+a1.Offset))>(w6 ((r1.2.2.zC.Storage.Bytes.size:Int)-a2)))) 5).bind fun r2=>
  some ((w6 (r1.1.Address.Offset+a1.Offset)),r2.1,r2.2)))
def zba (N:Nat) (a0:zG) (a1:zN) (a2:DataType):Option (ByteArray × Bool × zG):=
 (zg4 N a2).bind fun r1=>(zdy N a0 a1 r1).bind fun r2=>cond (!r2.2.1) (some ((⟨#[]⟩:ByteArray),false,r2.2.2))
  (if 0≤(w6 (r2.1+r1))∧(w6 (r2.1+r1))≤(r2.2.2.zC.Storage.Bytes.size:Int)then(if 0≤r2.1∧r2.1≤(w6 (r2.1+r1))then(some ((r2.2.2.zC.Storage.Bytes.extract r2.1.toNat (w6 (r2.1+r1)).toNat),true,r2.2.2))else none)else none)
def zug (N:Nat) (a0:DataType) (a1:ByteArray):Option (Value × Int × Int):=zhf N a0 a1
def zd7 (N:Nat) (a0:zG) (a1:zN) (a2:DataType):Option (Number × Bool × zG):=
 (zba N a0 a1 a2).bind fun r1=>cond (!r1.2.1) (some ((⟨0,0⟩:Number),false,r1.2.2)) ((zug N a2 r1.1).bind fun r2=>
  (zad r1.2.2 (r2.2.2 !=0) 1).bind fun r3=>some ((⟨r2.1.N,a2.Scale⟩:Number),r3.1,r3.2))
def za2 (a0:zG) (a1:Int) (a2:Number):Option zG:=
 (zdk 16 a0.zC.Registers).bind fun r1=>if 0≤a1 then(if a1<(r1.length:Int)then((r1[a1.toNat]?).bind fun x2=>
  some (⟨(⟨(r1.set a1.toNat a2),a0.zC.Condition,a0.zC.Storage,a0.zC.At,a0.zC.Stack,a0.zC.Lines,a0.zC.Status,a0.zC.Exception,a0.zC.Marks,a0.zC.Steps⟩:zC),a0.code,a0.raised⟩:zG))else none)else none
def zrd (N:Nat) (a0:Number) (a1:DataType) (a2:Bool):Option (Value × Int):=zgp (N+4000) a0 a1 a2
def zcx (N:Nat) (a0:zG) (a1:zN) (a2:ByteArray):Option zG:=
 (zdy N a0 a1 (a2.size:Int)).bind fun r1=>cond r1.2.1 ((zgl N r1.2.2.zC.Storage r1.1 a2).bind fun r2=>
  some (⟨(⟨r1.2.2.zC.Registers,r1.2.2.zC.Condition,r2.1,r1.2.2.zC.At,r1.2.2.zC.Stack,r1.2.2.zC.Lines,r1.2.2.zC.Status,r1.2.2.zC.Exception,r1.2.2.zC.Marks,r1.2.2.zC.Steps⟩:zC),r1.2.2.code,r1.2.2.raised⟩:zG))
  (some r1.2.2)
def zk3 (N:Nat) (a0:zG) (a1:zB):Option zG:=
 (idx a0.zC.Registers a1.R).bind fun x1=>(zrd N x1 a1.zF a1.Half).bind fun r2=>(zad a0 (r2.2 !=0) 2).bind fun r3=>
  cond r3.1 ((zh5 N a1.zF r2.1).bind fun r4=>(zcx N r3.2 a1.Place r4.1).bind fun r5=>some r5) (some r3.2)
def zf0 (N:Nat) (a0:Int) (a1 a2:Number) (a3:DataType) (a4:Bool):Option (Value × Int):=zda (N+4000) ⟨a0,a3,a4⟩ a1 a2
def zra (N:Nat) (a0:zG) (a1:zB):Option zG:=
 cond a1.zP ((zd7 N a0 a1.Place a1.Second).bind fun r1=>cond (!r1.2.1) (some r1.2.2) ((idx r1.2.2.zC.Registers a1.A).bind fun x2=>
  (zf0 N a1.zM x2 r1.1 a1.zF false).bind fun r3=>(zad r1.2.2 (r3.2==20) 3).bind fun r4=>
  cond r4.1 ((zad r4.2 (r3.2 !=0) 2).bind fun r5=>cond r5.1 ((za2 r5.2 a1.R (⟨r3.1.N,a1.zF.Scale⟩:Number)).bind fun r6=>some r6)
  (some r5.2)) (some r4.2))) ((idx a0.zC.Registers a1.B).bind fun x7=>(idx a0.zC.Registers a1.A).bind fun x8=>
  (zf0 N a1.zM x8 x7 a1.zF false).bind fun r9=>(zad a0 (r9.2==20) 3).bind fun r10=>
  cond r10.1 ((zad r10.2 (r9.2 !=0) 2).bind fun r11=>cond r11.1 ((za2 r11.2 a1.R (⟨r9.1.N,a1.zF.Scale⟩:Number)).bind fun r12=>
  some r12) (some r11.2)) (some r10.2))
def zok (N:Nat) (a0 a1:Number):Option (Int × Int):=(zgx (N+4000) a0 a1).bind fun r=>some (r,0)
def zq0 (a0:Int):Option Int:=zc3 a0
def zcz (N:Nat) (a0:zG) (a1:zB):Option Int:=
 (idx a0.zC.Registers a1.A).bind fun x1=>(idx a0.zC.Registers a1.B).bind fun x2=>(zok N x1 x2).bind fun r3=>(zq0 r3.1).bind fun r4=>
  some r4
def zin (a0:ByteArray) (a1:Int):Option ByteArray:=
 (zt8 (⟨#[32]⟩:ByteArray) (if 0>(w6 (a1-(a0.size:Int)))then 0 else(w6 (a1-(a0.size:Int))))).bind fun r1=>
  if((a0.size+r1.size:Nat):Int)>IntKind.i64.max then none else some (a0++r1)
def zq9 (N:Nat) (a0:zG) (a1:zB):Option zG:=
 cond (a1.Op==9) ((zba N a0 a1.From a1.Second).bind fun r1=>cond r1.2.1 ((zin r1.1 a1.zF.Length).bind fun r2=>
  if 0≤a1.zF.Length∧a1.zF.Length≤(r2.size:Int)then(if 0≤(0:Int)∧(0:Int)≤a1.zF.Length then((zcx N r1.2.2 a1.Place (r2.extract (0:Int).toNat a1.zF.Length.toNat)).bind fun r3=>
  some r3)else none)else none) (some r1.2.2)) ((zin a1.Text a1.zF.Length).bind fun r4=>
  if 0≤a1.zF.Length∧a1.zF.Length≤(r4.size:Int)then(if 0≤(0:Int)∧(0:Int)≤a1.zF.Length then((zcx N a0 a1.Place (r4.extract (0:Int).toNat a1.zF.Length.toNat)).bind fun r5=>
  some r5)else none)else none)
def zgd (a0 a1:ByteArray):Option Int:=zf5 20000 a0 a1
def zpq (N:Nat) (a0:zG) (a1:zB):Option zG:=
 (zba N a0 a1.Place a1.zF).bind fun r1=>(cond r1.2.1 (some (a1.Op==11)) (some false)).bind fun g2=>
  cond g2 ((zba N r1.2.2 a1.From a1.Second).bind fun r3=>cond r3.2.1 ((zgd r1.1 r3.1).bind fun r4=>
  some (⟨(⟨r3.2.2.zC.Registers,r4,r3.2.2.zC.Storage,r3.2.2.zC.At,r3.2.2.zC.Stack,r3.2.2.zC.Lines,r3.2.2.zC.Status,r3.2.2.zC.Exception,r3.2.2.zC.Marks,r3.2.2.zC.Steps⟩:zC),r3.2.2.code,r3.2.2.raised⟩:zG))
  (some r3.2.2)) (cond r1.2.1 ((zgd r1.1 a1.Text).bind fun r5=>
  some (⟨(⟨r1.2.2.zC.Registers,r5,r1.2.2.zC.Storage,r1.2.2.zC.At,r1.2.2.zC.Stack,r1.2.2.zC.Lines,r1.2.2.zC.Status,r1.2.2.zC.Exception,r1.2.2.zC.Marks,r1.2.2.zC.Steps⟩:zC),r1.2.2.code,r1.2.2.raised⟩:zG))
  (some r1.2.2))
def zff (N:Nat) (a0:Storage) (a1:Int) (a2:Pointer):Option (Storage × Int):=(zeu N a0 a1 a2).bind fun r=>some (r,0)
def zp4 (N:Nat) (a0:Number):Option Int:=zf4 N a0
def zj2 (N:Nat) (a0:zG) (a1:zB):Option zG:=
 (zc2 N a0 a1.Pointer).bind fun r1=>cond (!r1.2.1) (some r1.2.2) ((idx r1.2.2.zC.Registers a1.R).bind fun x2=>(zp4 N x2).bind fun r3=>
  (zbf (w6 (r1.1.Address.Offset+r3)) 0 16777215).bind fun r4=>(zad r1.2.2 (!r4) 5).bind fun r5=>
  cond r5.1 ((zff N r5.2.zC.Storage a1.Pointer (⟨r1.1.Kind,(⟨r1.1.Address.yF,(w6 (r1.1.Address.Offset+r3))⟩:Address),r1.1.Authority⟩:Pointer)).bind fun r6=>
  some (⟨(⟨r5.2.zC.Registers,r5.2.zC.Condition,r6.1,r5.2.zC.At,r5.2.zC.Stack,r5.2.zC.Lines,r5.2.zC.Status,r5.2.zC.Exception,r5.2.zC.Marks,r5.2.zC.Steps⟩:zC),r5.2.code,r5.2.raised⟩:zG))
  (some r5.2))
def zrq (N:Nat) (a0:zG) (a1:zB):Option zG:=
 cond (a1.Op==14) ((zg4 N a1.zF).bind fun r1=>(zdy N a0 a1.Place r1).bind fun r2=>
  cond r2.2.1 ((zff N r2.2.2.zC.Storage a1.Pointer (⟨0,(⟨1,r2.1⟩:Address),0⟩:Pointer)).bind fun r3=>
  some (⟨(⟨r2.2.2.zC.Registers,r2.2.2.zC.Condition,r3.1,r2.2.2.zC.At,r2.2.2.zC.Stack,r2.2.2.zC.Lines,r2.2.2.zC.Status,r2.2.2.zC.Exception,r2.2.2.zC.Marks,r2.2.2.zC.Steps⟩:zC),r2.2.2.code,r2.2.2.raised⟩:zG))
  (some r2.2.2)) (cond (a1.Op==15) ((zc2 N a0 a1.Source).bind fun r4=>
  cond r4.2.1 ((zff N r4.2.2.zC.Storage a1.Pointer r4.1).bind fun r5=>
  some (⟨(⟨r4.2.2.zC.Registers,r4.2.2.zC.Condition,r5.1,r4.2.2.zC.At,r4.2.2.zC.Stack,r4.2.2.zC.Lines,r4.2.2.zC.Status,r4.2.2.zC.Exception,r4.2.2.zC.Marks,r4.2.2.zC.Steps⟩:zC),r4.2.2.code,r4.2.2.raised⟩:zG))
  (some r4.2.2)) (cond (a1.Op==16) ((zj2 N a0 a1).bind fun r6=>some r6) (cond (a1.Op==17) ((zc2 N a0 a1.Pointer).bind fun r7=>
  some r7.2.2) (some a0))))
def zkd (N:Nat) (a0:zG) (a1:zB):Option zG:=
 (idx a0.zC.Registers a1.R).bind fun x1=>(zp4 N x1).bind fun r2=>(zbf r2 100 999).bind fun r3=>cond (!r3)
  ((zad a0 true 2).bind fun r4=>some r4.2) ((zad a0 true r2).bind fun r5=>some r5.2)
def zi9 (a0:Number):Option (ByteArray × Int):=(zd0 1000 a0).bind fun r=>some (r,0)
def zty (N:Nat) (a0:zG) (a1:zB):Option zG:=
 cond (a1.Op==22) ((idx a0.zC.Registers a1.R).bind fun x1=>(zi9 x1).bind fun r2=>cond ((a0.zC.Lines.length:Int)==40)
  (some (⟨(⟨a0.zC.Registers,a0.zC.Condition,a0.zC.Storage,a0.zC.At,a0.zC.Stack,a0.zC.Lines,3,a0.zC.Exception,a0.zC.Marks,a0.zC.Steps⟩:zC),a0.code,a0.raised⟩:zG))
  ((zdk 16 a0.zC.Lines).bind fun r3=>cond (Nat.ble ((r3.length+([r2.1]:List ByteArray).length)*16) zr)
  (some (⟨(⟨a0.zC.Registers,a0.zC.Condition,a0.zC.Storage,a0.zC.At,a0.zC.Stack,(r3++([r2.1]:List ByteArray)),a0.zC.Status,a0.zC.Exception,a0.zC.Marks,a0.zC.Steps⟩:zC),a0.code,a0.raised⟩:zG)) none))
  (cond (a1.Op==23) ((zba N a0 a1.Place a1.zF).bind fun r4=>cond (!r4.2.1) (some r4.2.2) (cond ((r4.2.2.zC.Lines.length:Int)==40)
  (some (⟨(⟨r4.2.2.zC.Registers,r4.2.2.zC.Condition,r4.2.2.zC.Storage,r4.2.2.zC.At,r4.2.2.zC.Stack,r4.2.2.zC.Lines,3,r4.2.2.zC.Exception,r4.2.2.zC.Marks,r4.2.2.zC.Steps⟩:zC),r4.2.2.code,r4.2.2.raised⟩:zG))
  ((zdk 16 r4.2.2.zC.Lines).bind fun r5=>cond (Nat.ble ((r5.length+([r4.1]:List ByteArray).length)*16) zr)
  (some (⟨(⟨r4.2.2.zC.Registers,r4.2.2.zC.Condition,r4.2.2.zC.Storage,r4.2.2.zC.At,r4.2.2.zC.Stack,(r5++([r4.1]:List ByteArray)),r4.2.2.zC.Status,r4.2.2.zC.Exception,r4.2.2.zC.Marks,r4.2.2.zC.Steps⟩:zC),r4.2.2.code,r4.2.2.raised⟩:zG)) none)))
  (cond ((a0.zC.Lines.length:Int)==40)
  (some (⟨(⟨a0.zC.Registers,a0.zC.Condition,a0.zC.Storage,a0.zC.At,a0.zC.Stack,a0.zC.Lines,3,a0.zC.Exception,a0.zC.Marks,a0.zC.Steps⟩:zC),a0.code,a0.raised⟩:zG))
  ((zdk 16 a0.zC.Lines).bind fun r6=>cond (Nat.ble ((r6.length+([a1.Text]:List ByteArray).length)*16) zr)
  (some (⟨(⟨a0.zC.Registers,a0.zC.Condition,a0.zC.Storage,a0.zC.At,a0.zC.Stack,(r6++([a1.Text]:List ByteArray)),a0.zC.Status,a0.zC.Exception,a0.zC.Marks,a0.zC.Steps⟩:zC),a0.code,a0.raised⟩:zG)) none)))
def zle (a0:zG):Option zG:=
 cond (a0.zC.Marks==300)
  (some (⟨(⟨a0.zC.Registers,a0.zC.Condition,a0.zC.Storage,a0.zC.At,a0.zC.Stack,a0.zC.Lines,3,a0.zC.Exception,a0.zC.Marks,a0.zC.Steps⟩:zC),a0.code,a0.raised⟩:zG))
  (some (⟨(⟨a0.zC.Registers,a0.zC.Condition,a0.zC.Storage,a0.zC.At,a0.zC.Stack,a0.zC.Lines,a0.zC.Status,a0.zC.Exception,(w6 (a0.zC.Marks+1)),a0.zC.Steps⟩:zC),a0.code,a0.raised⟩:zG))
def zlf (a0:zG) (a1:Int):Option (Int × zG):=
 (zad a0 (decide ((a0.zC.Stack.length:Int)≥6)) 6).bind fun r1=>cond r1.1 ((zdk 8 r1.2.zC.Stack).bind fun r2=>
  cond (Nat.ble ((r2.length+([r1.2.zC.At]:List Int).length)*8) zr)
  (some (a1,(⟨(⟨r1.2.zC.Registers,r1.2.zC.Condition,r1.2.zC.Storage,r1.2.zC.At,(r2++([r1.2.zC.At]:List Int)),r1.2.zC.Lines,r1.2.zC.Status,r1.2.zC.Exception,r1.2.zC.Marks,r1.2.zC.Steps⟩:zC),r1.2.code,r1.2.raised⟩:zG))) none)
  (some (a1,r1.2))
def zlg (a0:zG):Option (Int × zG):=
 cond (decide ((w6 ((a0.zC.Stack.length:Int)-1))<0))
  (some (a0.zC.At,(⟨(⟨a0.zC.Registers,a0.zC.Condition,a0.zC.Storage,a0.zC.At,a0.zC.Stack,a0.zC.Lines,1,a0.zC.Exception,a0.zC.Marks,a0.zC.Steps⟩:zC),a0.code,a0.raised⟩:zG)))
  ((idx a0.zC.Stack (w6 ((a0.zC.Stack.length:Int)-1))).bind fun x1=>
  if 0≤(w6 ((a0.zC.Stack.length:Int)-1))∧(w6 ((a0.zC.Stack.length:Int)-1))≤(a0.zC.Stack.length:Int)then(if 0≤(0:Int)∧(0:Int)≤(w6 ((a0.zC.Stack.length:Int)-1))then((zdk 8 ((a0.zC.Stack.take (w6 ((a0.zC.Stack.length:Int)-1)).toNat).drop (0:Int).toNat)).bind fun r2=>
  some ((w6 (x1+1)),(⟨(⟨a0.zC.Registers,a0.zC.Condition,a0.zC.Storage,a0.zC.At,r2,a0.zC.Lines,a0.zC.Status,a0.zC.Exception,a0.zC.Marks,a0.zC.Steps⟩:zC),a0.code,a0.raised⟩:zG)))else none)else none)
def zuj (N:Nat) (a0:zG) (a1:zB):Option (Int × zG):=
 cond (a1.Op==8) (some (a1.Target,a0)) (cond (a1.Op==18) ((zlf a0 a1.Target).bind fun r1=>some (r1.1,r1.2)) (cond (a1.Op==19)
  ((zlg a0).bind fun r2=>some (r2.1,r2.2)) (cond (a1.Op==6) (cond ((zj .i64 a0.zC.Condition a1.Mask) !=0) (some (a1.Target,a0))
  (some ((w6 (a0.zC.At+1)),a0))) (cond (a1.Op==7) ((zcz N a0 a1).bind fun r3=>cond ((zj .i64 r3 a1.Mask) !=0)
  (some (a1.Target,a0)) (some ((w6 (a0.zC.At+1)),a0))) (some ((w6 (a0.zC.At+1)),a0))))))
def zf (N:Nat) (a0:zG) (a1:zB):Option (Int × zG):=
 cond (a1.Op==0) ((zd7 N a0 a1.Place a1.zF).bind fun r1=>cond r1.2.1 ((za2 r1.2.2 a1.R r1.1).bind fun r2=>
  some ((w6 (r2.zC.At+1)),r2)) (some ((w6 (r1.2.2.zC.At+1)),r1.2.2))) (cond (a1.Op==1)
  ((zk3 N a0 a1).bind fun r3=>some ((w6 (r3.zC.At+1)),r3)) (cond (a1.Op==2) ((za2 a0 a1.R a1.Number).bind fun r4=>
  some ((w6 (r4.zC.At+1)),r4)) (cond (a1.Op==3) ((idx a0.zC.Registers a1.A).bind fun x5=>(za2 a0 a1.R x5).bind fun r6=>
  some ((w6 (r6.zC.At+1)),r6)) (cond (a1.Op==4) ((zra N a0 a1).bind fun r7=>some ((w6 (r7.zC.At+1)),r7))
  (cond (a1.Op==5) ((zcz N a0 a1).bind fun r8=>
  some ((w6 (a0.zC.At+1)),(⟨(⟨a0.zC.Registers,r8,a0.zC.Storage,a0.zC.At,a0.zC.Stack,a0.zC.Lines,a0.zC.Status,a0.zC.Exception,a0.zC.Marks,a0.zC.Steps⟩:zC),a0.code,a0.raised⟩:zG)))
  ((cond (a1.Op==9) (some (a1.Op==9)) (some (a1.Op==10))).bind fun q9=>cond q9 ((zq9 N a0 a1).bind fun r10=>
  some ((w6 (r10.zC.At+1)),r10)) ((cond (a1.Op==11) (some (a1.Op==11)) (some (a1.Op==12))).bind fun q11=>
  cond q11 ((zpq N a0 a1).bind fun r12=>some ((w6 (r12.zC.At+1)),r12)) (cond (a1.Op==13)
  ((zgd a1.Text a1.Other).bind fun r13=>
  some ((w6 (a0.zC.At+1)),(⟨(⟨a0.zC.Registers,r13,a0.zC.Storage,a0.zC.At,a0.zC.Stack,a0.zC.Lines,a0.zC.Status,a0.zC.Exception,a0.zC.Marks,a0.zC.Steps⟩:zC),a0.code,a0.raised⟩:zG)))
  ((cond (a1.Op==14) (some (a1.Op==14)) (cond (a1.Op==15) (some (a1.Op==15)) (cond (a1.Op==16) (some (a1.Op==16)) (some (a1.Op==17))))).bind fun q14=>
  cond q14 ((zrq N a0 a1).bind fun r15=>some ((w6 (r15.zC.At+1)),r15)) (cond (a1.Op==20)
  ((zkd N a0 a1).bind fun r16=>some ((w6 (r16.zC.At+1)),r16)) (cond (a1.Op==21)
  ((za2 a0 a1.R (⟨a0.zC.Exception,0⟩:Number)).bind fun r17=>some ((w6 (r17.zC.At+1)),r17)) ((cond (a1.Op==22)
  (some (a1.Op==22)) (cond (a1.Op==23) (some (a1.Op==23)) (some (a1.Op==24)))).bind fun q18=>cond q18 ((zty N a0 a1).bind fun r19=>
  some ((w6 (r19.zC.At+1)),r19)) (cond (a1.Op==25) ((zle a0).bind fun r20=>some ((w6 (r20.zC.At+1)),r20))
  (cond (a1.Op==26)
  (some ((w6 (a0.zC.At+1)),(⟨(⟨a0.zC.Registers,a0.zC.Condition,a0.zC.Storage,a0.zC.At,a0.zC.Stack,a0.zC.Lines,1,a0.zC.Exception,a0.zC.Marks,a0.zC.Steps⟩:zC),a0.code,a0.raised⟩:zG)))
  ((zuj N a0 a1).bind fun r21=>some (r21.1,r21.2))))))))))))))))
def zmq (a0:zT) (a1:Int) (a2:Int):Option Bool:=
 (zbf a1 a0.From (w6 (a0.To-1))).bind fun r1=>(cond r1 ((cond (a0.Exception==0) (some true) (some (a0.Exception==a2))).bind fun g2=>some g2)
  (some false)).bind fun g3=>some g3
def zas.b0 (N:Nat) (s0:List zT) (s7:Int) (s8:Int) (b1000000:Int) (b1000001:Int):Option (Round Int ((List zT) × Int × Int × Int × Int)):=
 cond (decide (s8<s7)) ((idx s0 s8).bind fun x1001=>(zmq x1001 b1000000 b1000001).bind fun r1002=>cond r1002 (some (.result s8))
  (some (.again (s0,s7,(w6 (s8+1)),b1000000,b1000001)))) (some (.leave (s0,s7,s8,b1000000,b1000001)))
def zas.r0 (N:Nat) (x:(List zT) × Int × Int × Int × Int):=zas.b0 N x.1 x.2.1 x.2.2.1 x.2.2.2.1 x.2.2.2.2
def zas (N:Nat) (a0:List zT) (a1:Int) (a2:Int):Option Int:=
 (zo (zas.r0 N) N (a0,(a0.length:Int),0,a1,a2)).bind fun z2=>zbu z2 (fun z=>some z) (fun y1=>some (-1))
def zom (N:Nat) (a0:zH) (a1:Int) (a2:Int):Option Int:=
 (zas N a0.zS a1 a2).bind fun r1=>cond (decide (r1<0)) (some (-1)) ((idx a0.zS r1).bind fun x2=>some x2.Handler)
def zb7.b0 (N:Nat) (b1000000:zG):Option (Round zG zG):=
 (zom N b1000000.code b1000000.zC.At b1000000.raised).bind fun r1001=>cond (decide (r1001≥0))
  (some (.result (⟨(⟨b1000000.zC.Registers,b1000000.zC.Condition,b1000000.zC.Storage,r1001,b1000000.zC.Stack,b1000000.zC.Lines,b1000000.zC.Status,b1000000.zC.Exception,b1000000.zC.Marks,b1000000.zC.Steps⟩:zC),b1000000.code,b1000000.raised⟩:zG)))
  (cond (decide ((w6 ((b1000000.zC.Stack.length:Int)-1))<0))
  (some (.result (⟨(⟨b1000000.zC.Registers,b1000000.zC.Condition,b1000000.zC.Storage,b1000000.zC.At,b1000000.zC.Stack,b1000000.zC.Lines,2,b1000000.zC.Exception,b1000000.zC.Marks,b1000000.zC.Steps⟩:zC),b1000000.code,b1000000.raised⟩:zG)))
  ((idx b1000000.zC.Stack (w6 ((b1000000.zC.Stack.length:Int)-1))).bind fun x1002=>
  if 0≤(w6 ((b1000000.zC.Stack.length:Int)-1))∧(w6 ((b1000000.zC.Stack.length:Int)-1))≤(b1000000.zC.Stack.length:Int)then(if 0≤(0:Int)∧(0:Int)≤(w6 ((b1000000.zC.Stack.length:Int)-1))then((zdk 8 ((b1000000.zC.Stack.take (w6 ((b1000000.zC.Stack.length:Int)-1)).toNat).drop (0:Int).toNat)).bind fun r1003=>
  some (.again (⟨(⟨b1000000.zC.Registers,b1000000.zC.Condition,b1000000.zC.Storage,x1002,r1003,b1000000.zC.Lines,b1000000.zC.Status,b1000000.zC.Exception,b1000000.zC.Marks,b1000000.zC.Steps⟩:zC),b1000000.code,b1000000.raised⟩:zG)))else none)else none))
def zb7.r0 (N:Nat) (x:zG):=zb7.b0 N x
def zb7 (N:Nat) (a0:zG):Option zG:=
 (zo (zb7.r0 N) N (⟨(⟨a0.zC.Registers,a0.zC.Condition,a0.zC.Storage,a0.zC.At,a0.zC.Stack,a0.zC.Lines,a0.zC.Status,a0.raised,a0.zC.Marks,a0.zC.Steps⟩:zC),a0.code,a0.raised⟩:zG)).bind fun z2=>
  zbu z2 (fun z=>some z) (fun y1=>some y1)
def zwk (N:Nat) (a0:zH) (a1:zC):Option zC:=
 (idx a0.zA a1.At).bind fun x1=>
  (zf N (⟨(⟨a1.Registers,a1.Condition,a1.Storage,a1.At,a1.Stack,a1.Lines,a1.Status,a1.Exception,a1.Marks,(w6 (a1.Steps+1))⟩:zC),a0,0⟩:zG) x1).bind fun r2=>
  cond (r2.2.raised !=0) ((zb7 N r2.2).bind fun r3=>(cond (r3.zC.Status==0) (some (r3.zC.Steps==3000)) (some false)).bind fun g4=>
  cond g4 (some (⟨r3.zC.Registers,r3.zC.Condition,r3.zC.Storage,r3.zC.At,r3.zC.Stack,r3.zC.Lines,3,r3.zC.Exception,r3.zC.Marks,r3.zC.Steps⟩:zC))
  (some r3.zC)) (cond (r2.2.zC.Status !=0) ((cond (r2.2.zC.Status==0) (some (r2.2.zC.Steps==3000)) (some false)).bind fun g5=>
  cond g5 (some (⟨r2.2.zC.Registers,r2.2.zC.Condition,r2.2.zC.Storage,r2.2.zC.At,r2.2.zC.Stack,r2.2.zC.Lines,3,r2.2.zC.Exception,r2.2.zC.Marks,r2.2.zC.Steps⟩:zC))
  (some r2.2.zC)) (cond (r2.1==(a0.zA.length:Int))
  (some (⟨r2.2.zC.Registers,r2.2.zC.Condition,r2.2.zC.Storage,r2.2.zC.At,r2.2.zC.Stack,r2.2.zC.Lines,1,r2.2.zC.Exception,r2.2.zC.Marks,r2.2.zC.Steps⟩:zC))
  ((cond (r2.2.zC.Status==0) (some (r2.2.zC.Steps==3000)) (some false)).bind fun g6=>
  cond g6 (some (⟨r2.2.zC.Registers,r2.2.zC.Condition,r2.2.zC.Storage,r2.1,r2.2.zC.Stack,r2.2.zC.Lines,3,r2.2.zC.Exception,r2.2.zC.Marks,r2.2.zC.Steps⟩:zC))
  (some (⟨r2.2.zC.Registers,r2.2.zC.Condition,r2.2.zC.Storage,r2.1,r2.2.zC.Stack,r2.2.zC.Lines,r2.2.zC.Status,r2.2.zC.Exception,r2.2.zC.Marks,r2.2.zC.Steps⟩:zC)))))
theorem z0e (N:Nat) (l:List Int) (h:l.length<N) (hl:l.length<1000000000):za1 N l=some (zhh l):=by
 unfold za1
 have:=zd5 (f:=za1.r0 N) (fun i=>(l,(l.length:Int),(i:Int))) (fun i=>(l[i]?).bind fun x=>if x=0 then none else some x) l.length
  (fun i hi=>by
   have hx:=lge hi;simp only [za1.r0,za1.b0,zau,hx,obs,dct (show(i:Int)<(l.length:Int)by omega),ctr]
   by_cases h0:l[i]=0
   · simp only [h0,bsf,cfa,if_true];rw [w6e];rfl
   · simp only [h0,if_false];rw [show(l[i] !=0)=true by simpa using h0];rfl)
  (by simp only [za1.r0,za1.b0,dcf (show ¬(l.length:Int)<(l.length:Int)by omega),cfa]) h
 simp only [nc0]at this
 rw [this,zum,←zxr]
 simp only [obs]
 cases l.findSome? (fun x=>if x=0 then none else some x)<;>rfl
theorem z48 (N:Nat) (l:List Int) (h:l.length<N) (hl:l.length<1000000000):za5 N l=some (zhh l):=by
 unfold za5
 have:=zd5 (f:=za5.r0 N) (fun i=>(l,(l.length:Int),(i:Int))) (fun i=>(l[i]?).bind fun x=>if x=0 then none else some x) l.length
  (fun i hi=>by
   have hx:=lge hi;simp only [za5.r0,za5.b0,zau,hx,obs,dct (show(i:Int)<(l.length:Int)by omega),ctr]
   by_cases h0:l[i]=0
   · simp only [h0,bsf,cfa,if_true];rw [w6e];rfl
   · simp only [h0,if_false];rw [show(l[i] !=0)=true by simpa using h0];rfl)
  (by simp only [za5.r0,za5.b0,dcf (show ¬(l.length:Int)<(l.length:Int)by omega),cfa]) h
 simp only [nc0]at this
 rw [this,zum,←zxr]
 simp only [obs]
 cases l.findSome? (fun x=>if x=0 then none else some x)<;>rfl
def inB (n lo hi:Int):Bool:=decide (lo≤n)&&decide (n≤hi)
theorem zpf (n lo hi:Int):zbf n lo hi=some (inB n lo hi):=by
 unfold zbf inB
 cases decide (lo≤n)<;>rfl
theorem z84 (n lo hi:Int):zfk n lo hi=some (inB n lo hi):=by
 unfold zfk inB
 cases decide (lo≤n)<;>rfl
theorem zg2 (n lo hi:Int):zg n lo hi=some (inB n lo hi):=by
 unfold zg inB
 cases decide (lo≤n)<;>rfl
theorem zui (b:Bool) (e:Int):zcd b e=some (cond b e 0):=by cases b<;>rfl
theorem zyj (b:Bool) (e:Int):zb9 b e=some (cond b e 0):=by cases b<;>rfl
theorem zh4 (b:Bool):zbb b=some (cond b 1 0):=by cases b<;>rfl
theorem zvu (m:zJ):∃e,zen m=some e∧zjm m=some e∧(e=0→2≤m.Registers∧m.Registers≤8):=by
 refine⟨cond (!inB m.Registers 2 8) 3 0,?_,?_,?_⟩
 · simp only [zen,zpf,zui,obs]
 · simp only [zjm,zg2,obs];cases inB m.Registers 2 8<;>rfl
 · intro h;cases hb:inB m.Registers 2 8 with
   | false=>rw [hb]at h;cases h
   | true=>simpa [inB]using hb
def zb3 (t:DataType):Int:=
 if t.Kind=0 then(if inB t.Length 1 256 then(if t.Scale=0 then 0 else 3)else 18)
 else if t.Kind=1∨t.Kind=2 then(if inB t.Length 1 15 then(if inB t.Scale 0 t.Length then 0 else 3)else 18)
 else if t.Kind=3 then(if t.Length=4∨t.Length=9 then(if inB t.Scale 0 t.Length then 0 else 3)else 18)
 else if t.Kind=4 then(if t.Length=0 then(if t.Scale=0 then 0 else 3)else 18)
 else 4
theorem zag9 (a b:Bool) (x y:Int) (hx:x≠0) (hy:y≠0):zhh [cond a x 0,cond b y 0]=cond a x (cond b y 0):=by
 cases a<;>cases b<;>simp [zhh,hx,hy]
theorem zyi (N:Nat) (hN:10<N) (t:DataType):zcu N t=some (zb3 t):=by
 have f2:∀a b:Int,za5 N [a,b]=some (zhh [a,b]):=fun a b=>z48 N _ (by simp;omega) (by simp)
 unfold zcu zb3
 simp only [z84,zyj,f2,obs,zag9 _ _ 18 3 (by decide) (by decide)]
 by_cases h0:t.Kind=0
 · simp only [h0,bst,ctr,if_true];cases inB t.Length 1 256<;>by_cases hs:t.Scale=0<;>simp [zbc,hs]
 · simp only [beq_eq_false_iff_ne.2 h0,h0,cfa,if_false]
   by_cases h1:t.Kind=1
   · simp only [h1,bst,ctr,true_or,if_true,obs];cases inB t.Length 1 15<;>cases inB t.Scale 0 t.Length<;>simp
   · by_cases h2:t.Kind=2
     · simp only [h2,h1];cases inB t.Length 1 15<;>cases inB t.Scale 0 t.Length<;>simp
     · by_cases h3:t.Kind=3
       · simp only [h3]
         by_cases h4:t.Length=4<;>by_cases h5:t.Length=9<;>cases inB t.Scale 0 t.Length<;>simp [zbc,h4,h5]
       · by_cases h4:t.Kind=4
         · simp only [h4]
           by_cases h5:t.Length=0<;>by_cases h6:t.Scale=0<;>simp [zbc,h5,h6]
         · simp [zbc,h1,h2,h3,h4]
theorem zvg (k:Int):zb4 k=some (inB k 1 3):=by simp only [zb4,zg2,obs]
theorem zyc (t:DataType):zeq t=some (zb3 t):=by
 have w0':w6 0=0:=by decide
 have w1:w6 3=3:=by decide
 have hz:inB t.Scale 0 0=decide (t.Scale=0):=by
  unfold inB
  by_cases h:t.Scale=0
  · simp [h]
  · simp only [h,decide_false]
    by_cases h1:0≤t.Scale
    · simp [h1,show ¬t.Scale≤0 by omega]
    · simp [h1]
 unfold zeq zb3
 simp only [zg2,zvg,zh4,obs,hz]
 by_cases h0:t.Kind=0
 · have e:inB (0:Int) 0 4=true:=by decide
   have e':inB (0:Int) 1 3=false:=by decide
   simp only [h0,e,e'];cases inB t.Length 1 256<;>by_cases hs:t.Scale=0<;>simp [zbc,hs,w0',w1]
 · by_cases h1:t.Kind=1
   · have e:inB (1:Int) 0 4=true:=by decide
     have e':inB (1:Int) 1 3=true:=by decide
     simp only [h1,e,e'];cases inB t.Length 1 15<;>cases inB t.Scale 0 t.Length<;>simp [w0',w1]
   · by_cases h2:t.Kind=2
     · have e:inB (2:Int) 0 4=true:=by decide
       have e':inB (2:Int) 1 3=true:=by decide
       simp only [h2,e,e'];cases inB t.Length 1 15<;>cases inB t.Scale 0 t.Length<;>simp [w0',w1]
     · by_cases h3:t.Kind=3
       · have e:inB (3:Int) 0 4=true:=by decide
         have e':inB (3:Int) 1 3=true:=by decide
         simp only [h3,e,e']
         by_cases h4:t.Length=4<;>by_cases h5:t.Length=9<;>cases inB t.Scale 0 t.Length<;>simp [zbc,h4,h5,w0',w1]
       · by_cases h4:t.Kind=4
         · have e:inB (4:Int) 0 4=true:=by decide
           have e':inB (4:Int) 1 3=false:=by decide
           simp only [h4,e,e']
           by_cases h5:t.Length=0<;>by_cases h6:t.Scale=0<;>simp [zbc,h5,h6,w0',w1]
         · have e:inB t.Kind 0 4=false:=by
            unfold inB
            by_cases hh:0≤t.Kind
            · simp only [hh,decide_true,Bool.true_and,decide_eq_false_iff_not];omega
            · simp [hh]
           simp [zbc,h0,h1,h2,h3,h4,e]
theorem zaq {n lo hi:Int}:inB n lo hi=true↔lo≤n∧n≤hi:=by simp [inB]
theorem zlt {t:DataType} (h:zb3 t=0):(t.Kind=0∧1≤t.Length∧t.Length≤256)∨((t.Kind=1∨t.Kind=2)∧1≤t.Length∧t.Length≤15)∨(t.Kind=3∧(t.Length=4∨t.Length=9))∨(t.Kind=4∧t.Length=0):=by
 unfold zb3 at h
 split at h
 · rename_i h0;split at h
   · rename_i h1;exact .inl ⟨h0,(zaq.1 h1).1,(zaq.1 h1).2⟩
   · cases h
 · split at h
   · rename_i h0;split at h
     · rename_i h1;exact .inr (.inl ⟨h0,(zaq.1 h1).1,(zaq.1 h1).2⟩)
     · cases h
   · split at h
     · rename_i h0;split at h
       · rename_i h1;exact .inr (.inr (.inl ⟨h0,h1⟩))
       · cases h
     · split at h
       · rename_i h0;split at h
         · rename_i h1;exact .inr (.inr (.inr ⟨h0,h1⟩))
         · cases h
       · cases h
def szE (t:DataType):Int:=if t.Kind=1 then t.Length/2+1 else if t.Kind=3 then(if t.Length=9 then 4 else 2)else if t.Kind=4 then 16 else t.Length
theorem zh3 {t:DataType} (h:zb3 t=0):0<szE t∧szE t≤256:=by
 unfold szE
 rcases zlt h with⟨h0,h1,h2⟩|⟨h0|h0,h1,h2⟩|⟨h0,h1|h1⟩|⟨h0,h1⟩<;>simp only [h0]<;>simp<;>omega
theorem zjk {t:DataType} (h:zb3 t=0):zaw t=some (szE t):=by
 unfold zaw szE
 rcases zlt h with⟨h0,h1,h2⟩|⟨h0|h0,h1,h2⟩|⟨h0,h1|h1⟩|⟨h0,h1⟩<;>simp only [h0,h1,zbc,zh4]<;>simp
 · rw [tde,w6e (n:=t.Length/2),w6e]
 · decide
 · decide
theorem z2f {t:DataType} (h:zb3 t=0):zii t=some (szE t):=by
 unfold zii szE
 rcases zlt h with⟨h0,h1,h2⟩|⟨h0|h0,h1,h2⟩|⟨h0,h1|h1⟩|⟨h0,h1⟩<;>simp only [h0,h1,zbc]<;>simp
 · rw [tde,w6e (n:=t.Length/2),w6e]
 · decide
 · decide
theorem z2j (N:Nat) (hN:10<N) {t:DataType} (h:zb3 t=0):zg4 N t=some (szE t):=by
 unfold zg4 zfc
 rw [zyi N hN,h]
 simp [z2f h]
structure StoOk (s:Storage):Prop where
 le:s.Bytes.size≤1024
 quad:s.Bytes.size%16=0
def zev (s:Storage) (a:Int):Bool:=decide (0≤a)&&(decide (a%16=0)&&decide (a<(s.Bytes.size:Int)))
theorem z7t (s:Storage) (a:Int):zeg s a=some (zev s a):=by
 unfold zeg zev
 by_cases h:0≤a
 · rw [tme h];simp only [ge_iff_le,h,decide_true,ctr,obs,zbc,Bool.true_and];cases decide (a%16=0)<;>rfl
 · simp [h]
theorem z19 {s:Storage} (ok:StoOk s) (a:Int):zer s a=some (zev s a):=by
 have h1:=ok.le
 have h2:=ok.quad
 unfold zer zev
 rw [w6e,zg2]
 simp only [obs]
 by_cases h:0≤a
 · rw [tme h];simp only [inB,h,decide_true,Bool.true_and,zbc]
   by_cases h3:a%16=0
   · have e:decide (a≤(s.Bytes.size:Int)-16)=decide (a<(s.Bytes.size:Int)):=by
      by_cases h4:a<(s.Bytes.size:Int)
      · rw [dct h4];exact dct (by omega)
      · rw [dcf h4];exact dcf (by omega)
     simp only [h3,decide_true,Bool.true_and,e];cases decide (a<(s.Bytes.size:Int))<;>rfl
   · simp only [h3,decide_false,Bool.false_and];cases decide (a≤(s.Bytes.size:Int)-16)<;>rfl
 · simp [inB,h]
def zcn (s:Storage) (p:zN) (n:Int):Bool:=if p.Based then zev s p.Pointer&&inB p.Offset 0 256 else inB p.Offset 0 ((s.Bytes.size:Int)-n)
theorem z5m {s:Storage} (ok:StoOk s) (N:Nat) (hN:10<N) (p:zN) {t:DataType} (h:zb3 t=0):zdz N s p t=some (zcn s p (szE t)):=by
 obtain⟨h1,h2⟩:=zh3 h
 have h3:=ok.le
 unfold zdz zcn
 rw [z7t,z2j N hN h,zpf]
 simp only [obs]
 rw [w6e]
 simp only [zpf,obs]
 cases p.Based<;>cases zev s p.Pointer<;>simp
theorem z4p {s:Storage} (ok:StoOk s) {c:zH} (hc:c.Storage=s) (p:zN) (hp: -9223372036854775808≤p.Offset∧p.Offset≤9223372036854775807) {t:DataType} (h:zb3 t=0):ze8 c p (szE t)=some (zcn s p (szE t)):=by
 obtain⟨h1,h2⟩:=zh3 h
 have h3:=ok.le
 unfold ze8 zcn zhq
 rw [hc]
 simp only [z19 ok,zg2,obs]
 cases p.Based with
 | true=>cases zev s p.Pointer<;>simp
 | false=>
  simp only [cfa]
  by_cases h4:inB p.Offset 0 (s.Bytes.size:Int)=true
  · obtain⟨h5,h6⟩:=zaq.1 h4;rw [w6e];simp only [h4,ctr,obs,Bool.false_eq_true,if_false]
    congr 1
    unfold inB;simp only [h5,decide_true,Bool.true_and,show(0:Int)≤szE t by omega]
    by_cases h7:szE t≤(s.Bytes.size:Int)-p.Offset
    · rw [dct h7];exact(dct (by omega)).symm
    · rw [dcf h7];exact(dcf (by omega)).symm
  · have e:inB p.Offset 0 (s.Bytes.size:Int)=false:=by simpa using h4
    simp only [e,cfa,obs,Bool.false_eq_true,if_false]
    congr 1
    cases h5:inB p.Offset 0 ((s.Bytes.size:Int)-szE t)with
    | false=>rfl
    | true=>
     obtain⟨h6,h7⟩:=zaq.1 h5;exact absurd (zaq.2 ⟨h6,by omega⟩) h4
def zq8 (n:Number):Int:=cond (inB n.N (-999999999999999) 999999999999999&&inB n.Scale 0 15) 0 3
theorem zaa0 (n:Number):zgr n=some (zq8 n):=by
 unfold zgr zq8
 simp only [z84,zyj,obs]
 cases inB n.N (-999999999999999) 999999999999999<;>cases inB n.Scale 0 15<;>rfl
theorem zsy (n:Number):zcp n=some (zq8 n):=by
 have w0:w6 (3*0)=0:=by decide
 have w1:w6 (3*1)=3:=by decide
 unfold zcp zq8
 simp only [zg2,zh4,obs]
 cases inB n.N (-999999999999999) 999999999999999<;>cases inB n.Scale 0 15<;>simp [w0,w1,zh4]<;>decide
def zad6 (op:Int) (ins:Bool):Option zU:=
 (idx z9g op).bind fun x1=>(cond (op==4) (some ins) (some false)).bind fun g2=>
  cond g2 (some (⟨(orI .i64 (orI .i64 (z8a .i64 x1.fields 4) 8) 64),x1.types⟩:zU)) (some x1)
theorem zaha (x:zB):zb5 x=zad6 x.Op x.zP:=rfl
def z8g (op:Int) (ins:Bool):Option zQ:=ze3 ⟨op,0,0,0,0,⟨false,0,0⟩,⟨false,0,0⟩,⟨0,0,0⟩,⟨0,0,0⟩,false,ins,⟨0,0⟩,⟨#[]⟩,⟨#[]⟩,0,0,0,0⟩
theorem z9x (x:zB):ze3 x=z8g x.Op x.zP:=rfl
structure Agree (f:zU) (u:zQ):Prop where
 R:(zj .i64 f.fields 1 !=0)=u.R
 A:(zj .i64 f.fields 2 !=0)=u.A
 B:(zj .i64 f.fields 4 !=0)=u.B
 Place:(zj .i64 f.fields 8 !=0)=u.Place
 From:(zj .i64 f.fields 16 !=0)=u.From
 zF:(zj .i64 f.fields 32 !=0)=(u.zF !=0)
 Second:(zj .i64 f.fields 64 !=0)=(u.Second !=0)
 Half:(zj .i64 f.fields 128 !=0)=u.Half
 Number:(zj .i64 f.fields 256 !=0)=u.Number
 Text:(zj .i64 f.fields 512 !=0)=u.Text
 Other:(zj .i64 f.fields 1024 !=0)=u.Other
 Mask:(zj .i64 f.fields 2048 !=0)=u.Mask
 Target:(zj .i64 f.fields 4096 !=0)=u.Target
 Pointer:(zj .i64 f.fields 8192 !=0)=u.Pointer
 Source:(zj .i64 f.fields 16384 !=0)=u.Source
 Calc:(zj .i64 f.fields 32768 !=0)=u.zM
 class1:u.zF=0∨u.zF=f.types
 class2:u.Second=0∨u.Second=f.types
 cls:f.types=0∨f.types=1∨f.types=2∨f.types=3
def z6q (f:zU) (u:zQ):Bool:=
 ((zj .i64 f.fields 1 !=0)==u.R)&&(((zj .i64 f.fields 2 !=0)==u.A)&&(((zj .i64 f.fields 4 !=0)==u.B)&&(((zj .i64 f.fields 8 !=0)==u.Place)&&(((zj .i64 f.fields 16 !=0)==u.From)&&
 (((zj .i64 f.fields 32 !=0)==(u.zF !=0))&&(((zj .i64 f.fields 64 !=0)==(u.Second !=0))&&(((zj .i64 f.fields 128 !=0)==u.Half)&&(((zj .i64 f.fields 256 !=0)==u.Number)&&(((zj .i64 f.fields 512 !=0)==u.Text)&&
 (((zj .i64 f.fields 1024 !=0)==u.Other)&&(((zj .i64 f.fields 2048 !=0)==u.Mask)&&(((zj .i64 f.fields 4096 !=0)==u.Target)&&(((zj .i64 f.fields 8192 !=0)==u.Pointer)&&(((zj .i64 f.fields 16384 !=0)==u.Source)&&
 (((zj .i64 f.fields 32768 !=0)==u.zM)&&((u.zF==0||u.zF==f.types)&&((u.Second==0||u.Second==f.types)&&(f.types==0||(f.types==1||(f.types==2||f.types==3))))))))))))))))))))
theorem zads {f:zU} {u:zQ} (h:z6q f u=true):Agree f u:=by
 simp only [z6q,Bool.and_eq_true,beq_iff_eq,Bool.or_eq_true]at h
 obtain⟨h1,h2,h3,h4,h5,h6,h7,h8,h9,h10,h11,h12,h13,h14,h15,h16,h17,h18,h19⟩:=h
 exact⟨h1,h2,h3,h4,h5,h6,h7,h8,h9,h10,h11,h12,h13,h14,h15,h16,h17,h18,h19⟩
def z83 (op:Int) (ins:Bool):Bool:=match zad6 op ins,z8g op ins with
 | some f,some u=>(z6q f u&&((!u.From||u.Second !=0)&&(!u.Place||cond (op==4) (u.Second !=0) (u.zF !=0))))&&(cond (op==4) (u.R&&u.A&&u.zM&&(u.Place==ins)&&(u.Second !=0)==ins) (u.zM==false))
 | _,_=>false
theorem zagw:((List.range 27).all fun k=>z83 (k:Int) true&&z83 (k:Int) false)=true:=by kernel_rfl
theorem zxs (x:zB) (h:inB x.Op 0 26=true):∃f u,zb5 x=some f∧ze3 x=some u∧Agree f u∧(x.Op=4→u.Place=x.zP)∧(u.From=true→u.Second≠0)∧(u.Place=true→if x.Op=4 then u.Second≠0 else u.zF≠0):=by
 obtain⟨h1,h2⟩:=zaq.1 h
 obtain⟨k,hk⟩:∃k:Nat,x.Op=(k:Int):=⟨x.Op.toNat,by omega⟩
 have hlt:k<27:=by omega
 have h3:=List.all_eq_true.1 zagw k (by simpa using hlt)
 have h4:z83 x.Op x.zP=true:=by
  rw [hk];cases x.zP
  · exact((Bool.and_eq_true _ _).mp h3).2
  · exact((Bool.and_eq_true _ _).mp h3).1
 rw [zaha,z9x]
 unfold z83 at h4
 split at h4
 · rename_i f u hf hu;obtain⟨h5,h6⟩:=(Bool.and_eq_true _ _).mp h4;simp only [Bool.and_eq_true]at h5;obtain⟨h5,h8,h9⟩:=h5;refine⟨f,u,hf,hu,zads h5,fun h7=> ?_,fun h7=> ?_,fun h7=> ?_⟩
   · rw [h7]at h6;simp only [bst,ctr,Bool.and_eq_true,beq_iff_eq]at h6;exact h6.1.2
   · rw [h7]at h8;simpa using h8
   · rw [h7]at h9;split
     · rename_i h10;rw [h10]at h9;simpa using h9
     · rename_i h10;rw [zbc,dcf h10]at h9;simpa using h9
 · cases h4
theorem zuz (a b:Int):(a==b)= !(a !=b):=by simp [bne]
def zm9 (x:zB) (u:zQ):Bool:=
 (!u.R&&x.R !=0)||((!u.A&&x.A !=0)||((!u.B&&x.B !=0)||((!u.zM&&x.zM !=0)||((!u.Place&& !(!x.Place.Based&&(x.Place.Pointer==0&&x.Place.Offset==0)))||
 ((!u.From&& !(!x.From.Based&&(x.From.Pointer==0&&x.From.Offset==0)))||((u.zF==0&& !(x.zF.Kind==0&&(x.zF.Length==0&&x.zF.Scale==0)))||((u.Second==0&& !(x.Second.Kind==0&&(x.Second.Length==0&&x.Second.Scale==0)))||
 ((!u.Half&&x.Half)||((x.Op !=4&&x.zP)||((!u.Number&& !(x.Number.N==0&&x.Number.Scale==0))||((!u.Text&& !(x.Text.toList==[]))||((!u.Other&& !(x.Other.toList==[]))||
 ((!u.Mask&&x.Mask !=0)||((!u.Target&&x.Target !=0)||((!u.Pointer&&x.Pointer !=0)||((!u.Source&&x.Source !=0)||((!x.Place.Based&&x.Place.Pointer !=0)||(!x.From.Based&&x.From.Pointer !=0))))))))))))))))))
theorem orB (a b:Bool):(cond a (some true) (some b))=some (a||b):=by cases a<;>rfl
theorem zne (a b:Bool):(cond a (some b) (some false))=some (a&&b):=by cases a<;>rfl
theorem zacr (x:zB) (u:zQ):zjl x u=some (zm9 x u):=by
 unfold zjl zm9
 have e:(⟨#[]⟩:ByteArray).toList=[]:=by kernel_rfl
 simp only [zne,orB,obs,zex,Bool.and_true,e,Bool.or_assoc,beq_false]
def zqw (p:zN) (b:Bool):zN:=cond b (cond p.Based p ⟨p.Based,0,p.Offset⟩) ⟨false,0,0⟩
theorem zabc (p:zN) (b:Bool):zh8 p b=some (zqw p b):=by
 unfold zh8 zqw
 cases b<;>cases p.Based<;>rfl
theorem zajy (k v fl:Int):zcq k v fl=some (cond (zj .i64 fl k !=0) v 0):=by
 unfold zcq
 rw [zuz]
 cases(zj .i64 fl k !=0)<;>rfl
def z3u (x:zB) (u:zQ):zB:=
 ⟨x.Op,cond u.R x.R 0,cond u.A x.A 0,cond u.B x.B 0,cond u.zM x.zM 0,zqw x.Place u.Place,zqw x.From u.From,cond (u.zF !=0) x.zF ⟨0,0,0⟩,cond (u.Second !=0) x.Second ⟨0,0,0⟩,
  cond x.Half u.Half false,cond x.zP (x.Op==4) false,cond u.Number x.Number ⟨0,0⟩,cond u.Text x.Text ⟨#[]⟩,cond u.Other x.Other ⟨#[]⟩,cond u.Mask x.Mask 0,cond u.Target x.Target 0,cond u.Pointer x.Pointer 0,cond u.Source x.Source 0⟩
theorem zafa {x:zB} {f:zU} {u:zQ} (hf:zb5 x=some f) (ag:Agree f u):zkh x=some (z3u x u):=by
 have b2:∀a b:Bool,(cond a (some b) (some false))=some (cond a b false):=fun a b=>by cases a<;>rfl
 unfold zkh z3u
 simp only [hf,zajy,zabc,b2,obs,zuz (zj .i64 f.fields 32),zuz (zj .i64 f.fields 64),zuz (zj .i64 f.fields 256),zuz (zj .i64 f.fields 512),zuz (zj .i64 f.fields 1024),
  ag.R,ag.A,ag.B,ag.Place,ag.From,ag.zF,ag.Second,ag.Half,ag.Number,ag.Text,ag.Other,ag.Mask,ag.Target,ag.Pointer,ag.Source,ag.Calc]
 cases(u.zF !=0)<;>cases(u.Second !=0)<;>cases u.Number<;>cases u.Text<;>cases u.Other<;>rfl
theorem zaje (b:Bool) (n:Int):(!(cond b n 0==n))=(!b&&n !=0):=by
 cases b
 · by_cases h:n=0
   · simp [h]
   · simp [h,zbc,zdq,Ne.symm h]
 · simp
theorem bbeq (a b:ByteArray):(a==b)=decide (a=b):=by
 cases a with|mk x=>
 cases b with|mk y=>
 show ByteArray.beq _ _=_
 unfold ByteArray.beq
 by_cases h:x=y
 · simp [h]
 · simp [h]
theorem zajd (b:Bool) (t:ByteArray):(!(cond b t (⟨#[]⟩:ByteArray)==t))=(!b&& !(t.toList==[])):=by
 rw [bbeq]
 cases b
 · simp only [cfa,Bool.not_false,Bool.true_and]
   congr 1
   rw [Lib.toList_data]
   by_cases h:t=⟨#[]⟩
   · subst h;rfl
   · rw [dcf (Ne.symm h)]
     symm
     rw [beq_eq_false_iff_ne];intro hh;apply h;cases t with
     | mk d=>simp at hh;rw [hh]
 · simp
theorem zajg (a b:Bool):(!(cond a b false==a))=(!b&&a):=by cases a<;>cases b<;>rfl
theorem zajf (a:Bool) (op:Int):(!(cond a (op==4) false==a))=(op !=4&&a):=by
 cases a
 · simp
 · simp [bne]
theorem zad0 (p:zN) (b r:Bool):(!((zqw p b).Based==p.Based)||(!((zqw p b).Pointer==p.Pointer)||(!((zqw p b).Offset==p.Offset)||r)))=
 ((!b&& !(!p.Based&&(p.Pointer==0&&p.Offset==0)))||((!p.Based&&p.Pointer !=0)||r)):=by
 obtain⟨ba,pt,of⟩:=p
 cases b<;>cases ba<;>by_cases h1:pt=0<;>by_cases h2:of=0<;>simp [zqw,zbc,zdq,h1,h2,eq_comm (a:=(0:Int))]
theorem zad1 (t:DataType) (b:Int) (r:Bool):(!((cond (b !=0) t ⟨0,0,0⟩).Kind==t.Kind)||(!((cond (b !=0) t ⟨0,0,0⟩).Length==t.Length)||(!((cond (b !=0) t ⟨0,0,0⟩).Scale==t.Scale)||r)))=
 ((b==0&& !(t.Kind==0&&(t.Length==0&&t.Scale==0)))||r):=by
 obtain⟨k,l,s⟩:=t
 by_cases h0:b=0<;>by_cases h1:k=0<;>by_cases h2:l=0<;>by_cases h3:s=0<;>simp [zbc,zdq,h0,h1,h2,h3,eq_comm (a:=(0:Int))]
theorem zajc (t:Number) (b r:Bool):(!((cond b t ⟨0,0⟩).N==t.N)||(!((cond b t ⟨0,0⟩).Scale==t.Scale)||r))=((!b&& !(t.N==0&&t.Scale==0))||r):=by
 obtain⟨n,s⟩:=t
 cases b<;>by_cases h1:n=0<;>by_cases h2:s=0<;>simp [zbc,zdq,h1,h2,eq_comm (a:=(0:Int))]
theorem z9b (x:zB) (u:zQ) (r2:zB) (h:r2=z3u x u):
 (!(zex [(r2.Op==x.Op),(r2.R==x.R),(r2.A==x.A),(r2.B==x.B),(r2.zM==x.zM),(r2.Place.Based==x.Place.Based),(r2.Place.Pointer==x.Place.Pointer),(r2.Place.Offset==x.Place.Offset),(r2.From.Based==x.From.Based),(r2.From.Pointer==x.From.Pointer),(r2.From.Offset==x.From.Offset),(r2.zF.Kind==x.zF.Kind),(r2.zF.Length==x.zF.Length),(r2.zF.Scale==x.zF.Scale),(r2.Second.Kind==x.Second.Kind),(r2.Second.Length==x.Second.Length),(r2.Second.Scale==x.Second.Scale),(r2.Half==x.Half),(r2.zP==x.zP),(r2.Number.N==x.Number.N),(r2.Number.Scale==x.Number.Scale),(r2.Text==x.Text),(r2.Other==x.Other),(r2.Mask==x.Mask),(r2.Target==x.Target),(r2.Pointer==x.Pointer),(r2.Source==x.Source)]))=zm9 x u:=by
 subst h
 simp only [zex,Bool.not_and,z3u]
 rw [zad0 x.Place,zad0 x.From,zad1 x.zF,zad1 x.Second,zajc x.Number]
 simp only [zaje,zajd,zajg,zajf,bst,bnt,Bool.false_or,Bool.or_false,zm9,bne]
 ac_rfl
def zdr (t:DataType) (c:Int):Int:=if c=0 then 0 else if zb3 t=0 then(if(c=1∧¬(1≤t.Kind∧t.Kind≤3))∨(c=2∧t.Kind≠0)∨(c=3∧t.Kind=4)then 17 else 0)else zb3 t
theorem znh {t:DataType} {c:Int} (h:zdr t c=0) (hc:c≠0):zb3 t=0:=by
 unfold zdr at h
 rw [ifn hc]at h
 by_cases h0:zb3 t=0
 · exact h0
 · rw [ifn h0]at h;exact absurd h h0
theorem z1n (N:Nat) (hN:10<N) (t:DataType) (c:Int) (hc:c=1∨c=2∨c=3):zf2 N t c=some (zdr t c):=by
 have f2:∀a b:Int,za1 N [a,b]=some (zhh [a,b]):=fun a b=>z0e N _ (by simp;omega) (by simp)
 unfold zf2 zdr
 rw [zyi N hN]
 simp only [zui,f2,zne,orB,obs,zbc,zdq]
 have hc0:c≠0:=by omega
 rw [ifn hc0]
 by_cases h:zb3 t=0
 · rw [ifp h,h];simp only [zhh,if_true];rcases zlt h with⟨h0,_⟩|⟨h0|h0,_⟩|⟨h0,_⟩|⟨h0,_⟩<;>rcases hc with rfl|rfl|rfl<;>simp [h0]
 · rw [ifn h];simp only [zhh,h,if_false]
theorem z08 (t:DataType) (c:Int) (hc:c=0∨c=1∨c=2∨c=3):ziw t c=some (zdr t c):=by
 unfold ziw zdr
 rw [zyc]
 simp only [zvg,zne,orB,obs,zbc,zdq]
 by_cases hc0:c=0
 · simp [hc0]
 · rw [ifn hc0];simp only [hc0,decide_false,cfa]
   by_cases h:zb3 t=0
   · rw [ifp h,h];rcases zlt h with⟨h0,_⟩|⟨h0|h0,_⟩|⟨h0,_⟩|⟨h0,_⟩<;>rcases hc with rfl|rfl|rfl|rfl<;>first|exact absurd rfl hc0|simp [h0,inB]
   · rw [ifn h];simp [h]
theorem zac8 (N:Nat) (hN:10<N) {x:zB} {f:zU} {u:zQ} (ag:Agree f u):zhn N x f=some (zhh [zdr x.zF u.zF,zdr x.Second u.Second]):=by
 have w0:∀t,zdr t 0=0:=fun t=>by simp [zdr]
 have hcls:∀c,c≠0→(c=0∨c=f.types)→c=f.types∧(f.types=1∨f.types=2∨f.types=3):=by
  intro c h0 h1;have:=ag.cls;omega
 have eta:∀t:DataType,(⟨t.Kind,t.Length,t.Scale⟩:DataType)=t:=fun t=>rfl
 unfold zhn
 rw [ag.zF,ag.Second]
 by_cases h1:u.zF=0
 · by_cases h2:u.Second=0
   · simp [h1,h2,w0,zhh]
   · obtain⟨e2,c2⟩:=hcls _ h2 ag.class2;have ht:=fun t=>z1n N hN t f.types c2;have h0:f.types≠0:=by omega
     simp only [eta,ht,h1,e2,w0]
     by_cases h3:zdr x.Second f.types=0<;>simp [h3,h0,zhh,zdq]
 · obtain⟨e1,c1⟩:=hcls _ h1 ag.class1;have ht:=fun t=>z1n N hN t f.types c1;have h0:f.types≠0:=by omega
   by_cases h2:u.Second=0
   · simp only [eta,ht,h2,e1,w0]
     by_cases h3:zdr x.zF f.types=0<;>simp [h3,h0,zhh,zdq]
   · obtain⟨e2,c2⟩:=hcls _ h2 ag.class2;simp only [eta,ht,e2,e1]
     by_cases h3:zdr x.zF f.types=0<;>by_cases h4:zdr x.Second f.types=0<;>simp [h3,h4,h0,zhh,zdq]
def zm2 (x:zB) (u:zQ):List Int:=cond u.R [x.R] []++(cond u.A [x.A] []++cond u.B [x.B] [])
theorem zae9 (n:Nat) {x:zB} {f:zU} {u:zQ} (hf:zb5 x=some f) (ag:Agree f u):zah (n+10) x=some (zm2 x u):=by
 have s0:w6 (1*2^(min ((0:Int).toNat) 64))=1:=by decide
 have s1:w6 (1*2^(min ((1:Int).toNat) 64))=2:=by decide
 have s2:w6 (1*2^(min ((2:Int).toNat) 64))=4:=by decide
 have a0:w6 (0+1)=1:=by decide
 have a1:w6 (1+1)=2:=by decide
 have a2:w6 (2+1)=3:=by decide
 have rm:∀k:Nat,k≤3→Nat.ble (k*8) zr=true:=fun k hk=>Nat.ble_eq_true_of_le (by unfold zr;omega)
 unfold zah
 rw [hf]
 simp only [obs]
 have i0:∀l,zah.r0 (n+10) (l,f.fields,[x.R,x.A,x.B],(([x.R,x.A,x.B]:List Int).length:Int),0)=some (.again (cond u.R (l++[x.R]) l,f.fields,[x.R,x.A,x.B],(([x.R,x.A,x.B]:List Int).length:Int),1))∨l.length>2:=by
  intro l
  by_cases hl:l.length>2
  · exact .inr hl
  · left;simp only [zah.r0,zah.b0,s0,a0,ag.R];have:=rm (l.length+1) (by omega);cases u.R<;>simp [this]
 have i1:∀l,zah.r0 (n+10) (l,f.fields,[x.R,x.A,x.B],(([x.R,x.A,x.B]:List Int).length:Int),1)=some (.again (cond u.A (l++[x.A]) l,f.fields,[x.R,x.A,x.B],(([x.R,x.A,x.B]:List Int).length:Int),2))∨l.length>2:=by
  intro l
  by_cases hl:l.length>2
  · exact .inr hl
  · left;simp only [zah.r0,zah.b0,s1,a1,ag.A];have:=rm (l.length+1) (by omega);cases u.A<;>simp [this]
 have i2:∀l,zah.r0 (n+10) (l,f.fields,[x.R,x.A,x.B],(([x.R,x.A,x.B]:List Int).length:Int),2)=some (.again (cond u.B (l++[x.B]) l,f.fields,[x.R,x.A,x.B],(([x.R,x.A,x.B]:List Int).length:Int),3))∨l.length>2:=by
  intro l
  by_cases hl:l.length>2
  · exact .inr hl
  · left;simp only [zah.r0,zah.b0,s2,a2,ag.B];have:=rm (l.length+1) (by omega);cases u.B<;>simp [this]
 have i3:∀l,zah.r0 (n+10) (l,f.fields,[x.R,x.A,x.B],(([x.R,x.A,x.B]:List Int).length:Int),3)=some (.leave (l,f.fields,[x.R,x.A,x.B],(([x.R,x.A,x.B]:List Int).length:Int),3)):=by
  intro l;simp [zah.r0,zah.b0]
 have l1:(cond u.R ([]++[x.R]) ([]:List Int)).length≤1:=by cases u.R<;>simp
 have l2:(cond u.A (cond u.R ([]++[x.R]) ([]:List Int)++[x.A]) (cond u.R ([]++[x.R]) ([]:List Int))).length≤2:=by cases u.R<;>cases u.A<;>simp
 show(zh (zah.r0 (n+10)) (n+10) _).bind _=_
 simp only [zh]
 rw [(i0 []).resolve_right (by simp)]
 simp only [obs]
 rw [(i1 _).resolve_right (by omega)]
 simp only [obs]
 rw [(i2 _).resolve_right (by omega)]
 simp only [obs]
 rw [i3]
 simp only [obs,zm2]
 cases u.R<;>cases u.A<;>cases u.B<;>rfl
def zgi (m:zJ) (r:Int):Bool:= !inB r 0 (m.Registers-1)
theorem z7a (N:Nat) (l:List Int) (h:l.length<N) (hl:l.length<1000000000) (m:zJ) (hm:2≤m.Registers∧m.Registers≤8):zdo N l m=some (l.any (zgi m)):=by
 unfold zdo zap
 have c1:∀r,zgs r m=some (zgi m r):=fun r=>by
  unfold zgs zgi;rw [w6e,zpf];rfl
 have:=zd5 (f:=zap.r0 N) (fun i=>(l,(l.length:Int),(i:Int),m)) (fun i=>(l[i]?).bind fun x=>if zgi m x then some (i:Int)else none) l.length
  (fun i hi=>by
   have hx:=lge hi;simp only [zap.r0,zap.b0,zau,hx,obs,dct (show(i:Int)<(l.length:Int)by omega),ctr,c1];rw [w6e];cases hb:zgi m l[i]<;>simp)
  (by simp only [zap.r0,zap.b0,dcf (show ¬(l.length:Int)<(l.length:Int)by omega),cfa]) h
 simp only [nc0]at this
 rw [this]
 simp only [obs]
 cases hfs:(List.range l.length).findSome? (fun i:Nat=>(l[i]?).bind fun x=>if zgi m x=true then some (i:Int)else none)with
 | some r=>
  simp only [zbu,obs];obtain⟨i,hi,hr⟩:=eof hfs;rw [Option.bind_eq_some_iff]at hr;obtain⟨x,hx,hr⟩:=hr;split at hr
  · rename_i hb;cases hr;have:l.any (zgi m)=true:=List.any_eq_true.2 ⟨x,lmg hx,hb⟩;rw [this];simp
  · cases hr
 | none=>
  simp only [zbu,obs];rw [List.findSome?_eq_none_iff]at hfs;have:l.any (zgi m)=false:=by
   rw [List.any_eq_false];intro x hx hb;obtain⟨i,hi⟩:=List.getElem?_of_mem hx;have:=hfs i (by simp;exact(gei hi).1);rw [hi]at this;simp [hb]at this
  rw [this];rfl
theorem zaeo (m:zJ) (hm:2≤m.Registers∧m.Registers≤8) {x:zB} {u:zQ} (hu:ze3 x=some u):zfv m x=some (!(zm2 x u).any (zgi m)):=by
 have c1:∀r,zfu m r=some (!zgi m r):=fun r=>by
  unfold zfu zgi;rw [w6e,zg2];simp
 unfold zfv
 rw [hu]
 have aux:∀b r,(cond b [r] []).any (zgi m)=(b&&zgi m r):=fun b r=>by cases b<;>simp
 simp only [c1,obs,zm2,List.any_append,aux]
 generalize zgi m x.R=p
 generalize zgi m x.A=q
 generalize zgi m x.B=r
 cases u.R<;>cases u.A<;>cases u.B<;>cases p<;>cases q<;>cases r<;>rfl
def zdp (x:zB):DataType:=if x.Op=4 then x.Second else x.zF
def zlz (m:zJ) (c:zH) (x:zB) (u:zQ):Bool:=
 (zm2 x u).any (zgi m)||((u.Target&& !inB x.Target 0 ((c.zA.length:Int)-1))||((u.Mask&& !inB x.Mask 1 7)||((u.Pointer&& !zev c.Storage x.Pointer)||((u.Source&& !zev c.Storage x.Source)||
  ((u.Place&& !zcn c.Storage x.Place (szE (zdp x)))||((u.From&& !zcn c.Storage x.From (szE x.Second))||(u.zM&& !inB x.zM 0 4)))))))
theorem eD (t:DataType):(⟨t.Kind,t.Length,t.Scale⟩:DataType)=t:=rfl
theorem eP (t:zN):(⟨t.Based,t.Pointer,t.Offset⟩:zN)=t:=rfl
theorem eS (t:Storage):(⟨t.Bytes,t.Tags⟩:Storage)=t:=rfl
theorem eN (t:Number):(⟨t.N,t.Scale⟩:Number)=t:=rfl
theorem eM (t:zJ):(⟨t.Registers,t.yK,t.yH⟩:zJ)=t:=rfl
theorem eC (t:zH):(⟨t.Storage,t.zA,t.zS⟩:zH)=t:=rfl
theorem eX (t:zB):(⟨t.Op,t.R,t.A,t.B,t.zM,t.Place,t.From,t.zF,t.Second,t.Half,t.zP,t.Number,t.Text,t.Other,t.Mask,t.Target,t.Pointer,t.Source⟩:zB)=t:=rfl
theorem eF (t:zU):(⟨t.fields,t.types⟩:zU)=t:=rfl
theorem nF (a b:Bool):(cond a (some (!b)) (some false))=some (a&& !b):=by cases a<;>rfl
structure InsOk (c:zH) (x:zB) (u:zQ):Prop where
 sto:StoOk c.Storage
 len:c.zA.length<1000000000
 pt:u.Place=true→zb3 (zdp x)=0
 ft:u.From=true→zb3 x.Second=0
 po: -9223372036854775808≤x.Place.Offset∧x.Place.Offset≤9223372036854775807
 fo: -9223372036854775808≤x.From.Offset∧x.From.Offset≤9223372036854775807
theorem z9u {a b:Bool} {o:Option Bool} (h:a=true→o=some b):(cond a o (some false))=some (a&&b):=by
 cases a
 · rfl
 · exact h rfl
theorem zac9 (N:Nat) (hN:20<N) {m:zJ} (hm:2≤m.Registers∧m.Registers≤8) {c:zH} {x:zB} {f:zU} {u:zQ} (hf:zb5 x=some f) (ag:Agree f u) (ok:InsOk c x u):
 zh9 N m c x=some (!zlz m c x u):=by
 obtain⟨n,rfl⟩:∃n,N=n+10:=⟨N-10,by omega⟩
 have hl:(zm2 x u).length≤3:=by unfold zm2;cases u.R<;>cases u.A<;>cases u.B<;>simp
 have hlen:=ok.len
 have g1:∀p t,(u.Place=true→zb3 t=0)→(cond u.Place ((zdz (n+10) c.Storage p t).bind fun r=>some (!r)) (some false))=some (u.Place&& !zcn c.Storage p (szE t)):=fun p t h=>z9u fun hp=>by rw [z5m ok.sto _ (by omega) _ (h hp)];rfl
 have g2:∀p t,(u.From=true→zb3 t=0)→(cond u.From ((zdz (n+10) c.Storage p t).bind fun r=>some (!r)) (some false))=some (u.From&& !zcn c.Storage p (szE t)):=fun p t h=>z9u fun hp=>by rw [z5m ok.sto _ (by omega) _ (h hp)];rfl
 unfold zh9
 try simp only [eD,eP,eS,eM,eC,eX]
 rw [hf,zae9 n hf ag]
 simp only [obs]
 rw [z7a _ _ (by omega) (by omega) m hm]
 simp only [obs]
 unfold zlz
 cases hr:(zm2 x u).any (zgi m)with
 | true=>rfl
 | false=>
  simp only [cfa,Bool.false_or,ag.Place,ag.From,ag.Target,ag.Mask,ag.Pointer,ag.Source,ag.Calc,zne,zbc,obs];rw [w6e];simp only [zpf,z7t,nF,obs]
  by_cases h4:x.Op=4
  · have hp:zdp x=x.Second:=ifp h4;have k:=ok.pt;rw [hp]at k⊢;rw [g2 _ _ ok.ft];cases hup:u.Place with
    | true=>
     simp only [h4,decide_true,Bool.and_true,ctr,Bool.true_and];have:=g1 x.Place x.Second k;rw [hup]at this;simp only [ctr,Bool.true_and]at this;rw [this];simp only [orB,obs,Bool.or_assoc,Bool.true_and]
    | false=>
     simp only [h4,decide_true,Bool.false_and,cfa,obs,orB,Bool.or_assoc,Bool.false_or]
  · have hp:zdp x=x.zF:=ifn h4;have k:=ok.pt;rw [hp]at k⊢;rw [g1 _ _ k,g2 _ _ ok.ft];simp only [h4,decide_false,Bool.and_false,cfa,obs,orB,Bool.or_assoc]
def zpe (m:zJ) (x:zB):Bool:=(decide (x.Op=7)&& !m.yK)||(x.zP&& !m.yH)
def zqi (x:zB):Bool:=decide ((x.Text.size:Int)>256)||decide ((x.Other.size:Int)>256)
theorem zag5 (m:zJ) (x:zB) (h:x.zP=true→x.Op=4):zio m x=some (!zpe m x):=by
 unfold zio zpe
 by_cases h7:x.Op=7
 · have h4:x.zP=false:=by
    cases hi:x.zP with
    | false=>rfl
    | true=>have:=h hi;omega
   rw [h4];simp only [h7,zdq];cases m.yK<;>rfl
 · by_cases h4:x.Op=4
   · simp only [h4,zdq];cases x.zP<;>cases m.yH<;>rfl
   · have h5:x.zP=false:=by
      cases hi:x.zP with
      | false=>rfl
      | true=>exact absurd (h hi) h4
     simp [h5,h7,h4,zdq]
theorem zacp (m:zJ) (x:zB):zme m x=some (zpe m x):=by
 unfold zme zpe
 simp only [zbc]
 cases decide (x.Op=7)<;>cases m.yK<;>cases x.zP<;>cases m.yH<;>rfl
def zvz (m:zJ) (c:zH) (x:zB) (u:zQ):Int:=
 cond (zm9 x u) 5 (cond (zpe m x) 39 (if zdr x.zF u.zF≠0 then zdr x.zF u.zF else if zdr x.Second u.Second≠0 then zdr x.Second u.Second else
  cond (zlz m c x u) 3 (if zq8 x.Number≠0 then zq8 x.Number else cond (zqi x) 2 0)))
theorem zt1 {x:zB} {u:zQ} (h:zm9 x u=false):(x.zP=true→x.Op=4)∧(u.Number=false→zq8 x.Number=0):=by
 unfold zm9 at h
 simp only [Bool.or_eq_false_iff]at h
 obtain⟨_,_,_,_,_,_,_,_,_,h10,h11,_⟩:=h
 constructor
 · intro hi;rw [hi]at h10;simpa using h10
 · intro hn;rw [hn]at h11;simp only [Bool.not_false,Bool.true_and,Bool.not_eq_eq_eq_not,bnt,Bool.and_eq_true,beq_iff_eq,Bool.not_eq_false']at h11;obtain⟨e1,e2⟩:x.Number.N=0∧x.Number.Scale=0:=by simpa using h11
   unfold zq8;rw [e1,e2]
   decide
theorem zag4 (N:Nat) (hN:20<N) {m:zJ} (hm:2≤m.Registers∧m.Registers≤8) {c:zH} {x:zB} {f:zU} {u:zQ} (hop:inB x.Op 0 26=true) (hf:zb5 x=some f) (ag:Agree f u)
 (ok:zdr x.zF u.zF=0→zdr x.Second u.Second=0→InsOk c x u):zdd N m c x=some (zvz m c x u):=by
 have f3:∀a b d:Int,za1 N [a,b,d]=some (zhh [a,b,d]):=fun a b d=>z0e N _ (by simp;omega) (by simp)
 unfold zdd zvz
 try simp only [eD,eP,eS,eM,eC,eX,eN,eF]
 rw [zpf,hop,hf,zafa hf ag]
 simp only [obs,bnt,cfa]
 rw [zac8 N (by omega) ag]
 rw [z9b x u _ rfl]
 simp only [zui,zaa0,obs,f3,orB]
 cases he:zm9 x u with
 | true=>
  have hx:∃b,zio m x=some b:=by
   unfold zio;cases(x.Op !=7)<;>cases m.yK<;>cases(x.Op !=4)<;>cases x.zP<;>cases m.yH<;>exact⟨_,rfl⟩
  obtain⟨b,hb⟩:=hx;rw [hb];simp [zhh]
 | false=>
  obtain⟨h1,h2⟩:=zt1 he;rw [zag5 m x h1];simp only [obs,Bool.not_not,cfa];cases zpe m x with
  | true=>simp [zhh]
  | false=>
   simp only [cfa]
   by_cases e1:zdr x.zF u.zF=0
   · by_cases e2:zdr x.Second u.Second=0
     · rw [zac9 N hN hm hf ag (ok e1 e2)];simp only [e1,e2,zhh,if_true,obs,Bool.not_not];cases zlz m c x u with
       | true=>simp
       | false=>
        by_cases e3:zq8 x.Number=0
        · cases hl:zqi x with
          | true=>unfold zqi at hl;simp [e3,hl]
          | false=>unfold zqi at hl;simp [e3,hl]
        · simp [e3]
     · simp [zhh,e1,e2,zdq]
   · simp [zhh,e1,zdq]
theorem zafm {f:zU} {u:zQ} (ag:Agree f u):(u.zF=0∨u.zF=1∨u.zF=2∨u.zF=3)∧(u.Second=0∨u.Second=1∨u.Second=2∨u.Second=3):=by
 have h1:=ag.class1
 have h2:=ag.class2
 have h3:=ag.cls
 omega
theorem zagk {m:zJ} (hm:2≤m.Registers∧m.Registers≤8) {c:zH} {x:zB} {f:zU} {u:zQ} (hop:inB x.Op 0 26=true) (hu:ze3 x=some u) (ag:Agree f u)
 (ok:zdr x.zF u.zF=0→zdr x.Second u.Second=0→InsOk c x u):zed m c x=some (zvz m c x u):=by
 obtain⟨c1,c2⟩:=zafm ag
 unfold zed zvz
 try simp only [eD,eP,eS,eM,eC,eX,eN,eF]
 rw [zg2,hop,hu]
 simp only [obs,bnt,cfa]
 rw [zacr,zacp,z08 _ _ c1,z08 _ _ c2,zaeo m hm hu]
 simp only [obs]
 cases he:zm9 x u with
 | true=>rfl
 | false=>
  obtain⟨h1,h2⟩:=zt1 he;simp only [cfa];cases zpe m x with
  | true=>rfl
  | false=>
   simp only [cfa]
   by_cases e1:zdr x.zF u.zF=0
   · by_cases e2:zdr x.Second u.Second=0
     · have o:=ok e1 e2;have hlen:=o.len;have hb:∀t,zb3 t=0→zaw t=some (szE t):=fun t h=>zjk h;have g1:∀t,(u.Place=true→zb3 t=0)→(cond u.Place ((zaw t).bind fun r=>(ze8 c x.Place r).bind fun r=>some (!r)) (some false))=some (u.Place&& !zcn c.Storage x.Place (szE t)):=fun t h=>z9u fun hp=>by rw [zjk (h hp)];simp only [obs];rw [z4p o.sto rfl _ o.po (h hp)];rfl
       have g2:(cond u.From ((zaw x.Second).bind fun r=>(ze8 c x.From r).bind fun r=>some (!r)) (some false))=some (u.From&& !zcn c.Storage x.From (szE x.Second)):=z9u fun hp=>by rw [zjk (o.ft hp)];simp only [obs];rw [z4p o.sto rfl _ o.fo (o.ft hp)];rfl
       have k:=o.pt;have kn:∀e:Int,(u.Number=false→e=0)→(cond (u.Number&&e !=0) (some e) (cond (zqi x) (some 2) (some 0)))=some (if e≠0 then e else cond (zqi x) 2 0):=by
        intro e h
        by_cases h0:e=0
        · subst h0;cases u.Number<;>cases zqi x<;>rfl
        · cases hn:u.Number with
          | false=>exact absurd (h hn) h0
          | true=>simp [h0,zdq]
       simp only [e1,e2,bsf,cfa,ne_eq,not_true_eq_false,if_false,zbc];rw [w6e];simp only [zg2,z19 o.sto,zsy,nF,zne,orB,g2,obs,←zqi.eq_def];unfold zlz
       by_cases h4:x.Op=4
       · have hp:zdp x=x.Second:=ifp h4;rw [hp]at k⊢;rw [g1 _ k];simp only [h4,decide_true,ctr,obs,kn _ h2];generalize (zm2 x u).any (zgi m)=t1;generalize (u.Target&& !inB x.Target 0 ((c.zA.length:Int)-1))=t2;generalize (u.Mask&& !inB x.Mask 1 7)=t3;generalize (u.Pointer&& !zev c.Storage x.Pointer)=t4;generalize (u.Source&& !zev c.Storage x.Source)=t5;generalize (u.Place&& !zcn c.Storage x.Place (szE x.Second))=t6;generalize (u.From&& !zcn c.Storage x.From (szE x.Second))=t7;generalize (u.zM&& !inB x.zM 0 4)=t8;cases t1<;>cases t2<;>cases t3<;>cases t4<;>cases t5<;>cases t6<;>cases t7<;>cases t8<;>rfl
       · have hp:zdp x=x.zF:=ifn h4;rw [hp]at k⊢;rw [g1 _ k];simp only [h4,decide_false,cfa,obs,kn _ h2];generalize (zm2 x u).any (zgi m)=t1;generalize (u.Target&& !inB x.Target 0 ((c.zA.length:Int)-1))=t2;generalize (u.Mask&& !inB x.Mask 1 7)=t3;generalize (u.Pointer&& !zev c.Storage x.Pointer)=t4;generalize (u.Source&& !zev c.Storage x.Source)=t5;generalize (u.Place&& !zcn c.Storage x.Place (szE x.zF))=t6;generalize (u.From&& !zcn c.Storage x.From (szE x.Second))=t7;generalize (u.zM&& !inB x.zM 0 4)=t8;cases t1<;>cases t2<;>cases t3<;>cases t4<;>cases t5<;>cases t6<;>cases t7<;>cases t8<;>rfl
     · simp [e1,e2,zdq]
   · simp [e1,zdq]
theorem zqa {n:Nat} {c:zH} (h:Wft En n Ty.zH c):c.Storage.Bytes.size≤n∧c.Storage.Tags.length≤n∧c.zA.length≤n∧c.zS.length≤n∧∀x∈c.zA,Wft En n Ty.zB x:=by
 have h1:=h (.sc (.string c.Storage.Bytes)) (by show _∈zml c;simp [zml])
 have h2:=h (.lst Ty.bool c.Storage.Tags) (by show _∈zml c;simp [zml])
 have h3:=h (.lst Ty.zB c.zA) (by show _∈zml c;simp [zml])
 have h4:=h (.lst Ty.zT c.zS) (by show _∈zml c;simp [zml])
 cases h1 with
 | str h1=>
  cases h2 with
  | lst h2 _=>
   cases h3 with
   | lst h3 h3'=>
    cases h4 with
    | lst h4 _=>exact⟨h1,h2,h3,h4,h3'⟩
theorem z7f {n:Nat} {z:Int} (h:Wfc En n (.sc (.int .i64 z))): -9223372036854775808≤z∧z≤9223372036854775807:=by
 cases h with
 | int h1 h2=>
  have e1:IntKind.i64.min= -9223372036854775808:=by decide
  have e2:IntKind.i64.max=9223372036854775807:=by decide
  rw [e1]at h1;rw [e2]at h2;exact⟨h1,h2⟩
theorem zag2 {n:Nat} {x:zB} (h:Wft En n Ty.zB x):(-9223372036854775808≤x.Place.Offset∧x.Place.Offset≤9223372036854775807)∧(-9223372036854775808≤x.From.Offset∧x.From.Offset≤9223372036854775807):=
 ⟨z7f (h _ (by show _∈zjq x;simp [zjq])),z7f (h _ (by show _∈zjq x;simp [zjq]))⟩
def zmr (m:zJ) (c:zH) (x:zB):Int:=if inB x.Op 0 26=true then zvz m c x ((ze3 x).getD ⟨false,false,false,false,false,false,false,false,false,false,false,false,false,false,0,0⟩)else 4
theorem z6j (N:Nat) (hN:20<N) {m:zJ} (hm:2≤m.Registers∧m.Registers≤8) {c:zH} (hs:StoOk c.Storage) (hlen:c.zA.length<1000000000) {n:Nat} {x:zB} (hx:Wft En n Ty.zB x):
 zdd N m c x=some (zmr m c x)∧zed m c x=some (zmr m c x):=by
 obtain⟨w1,w2⟩:=zag2 hx
 unfold zmr
 by_cases hop:inB x.Op 0 26=true
 · obtain⟨f,u,hf,hu,ag,h4,h5,h6⟩:=zxs x hop;have ok:zdr x.zF u.zF=0→zdr x.Second u.Second=0→InsOk c x u:=fun e1 e2=>{
    sto:=hs,len:=hlen,po:=w1,fo:=w2,
    pt:=fun hp=>(by
     have:=h6 hp;unfold zdp;split
     · rename_i h7;rw [ifp h7]at this;exact znh e2 this
     · rename_i h7;rw [ifn h7]at this;exact znh e1 this),
    ft:=fun hp=>znh e2 (h5 hp)}
   rw [ifp hop,hu];exact⟨zag4 N hN hm hop hf ag ok,zagk hm hop hu ag ok⟩
 · rw [ifn hop];have e:inB x.Op 0 26=false:=by simpa using hop
   constructor
   · unfold zdd;rw [zpf,e];rfl
   · unfold zed;rw [zg2,e];rfl
def zo2 (c:zH) (t:zT):Bool:=(inB t.From 0 t.To&&(decide (t.To≤(c.zA.length:Int))&&(inB t.Exception 0 999&&inB t.Handler 0 ((c.zA.length:Int)-1))))
theorem zae7 (c:zH) (hlen:c.zA.length<1000000000) (t:zT):zh7 c t=some (cond (zo2 c t) 0 3):=by
 unfold zh7 zo2
 rw [w6e]
 simp only [zpf,zui,zne,obs,Bool.and_assoc]
 generalize (inB t.From 0 t.To&&(decide (t.To≤(c.zA.length:Int))&&(inB t.Exception 0 999&&inB t.Handler 0 ((c.zA.length:Int)-1))))=b
 cases b<;>rfl
theorem zaen (c:zH) (t:zT):((decide (t.From<0)||decide (t.From>t.To))||(decide (t.To>(c.zA.length:Int))))= !(inB t.From 0 t.To&&decide (t.To≤(c.zA.length:Int))):=by
 unfold inB
 by_cases h1:t.From<0
 · simp [h1,show ¬(0≤t.From)by omega]
 · by_cases h2:t.From>t.To
   · simp [h1,h2,show ¬(t.From≤t.To)by omega]
   · by_cases h3:t.To>(c.zA.length:Int)
     · simp [h1,h2,h3,show ¬(t.To≤(c.zA.length:Int))by omega]
     · simp [h1,h2,h3,show(0≤t.From)by omega,show(t.From≤t.To)by omega,show(t.To≤(c.zA.length:Int))by omega]
def gI (m:zJ) (c:zH) (i:Nat):Option (Int × Int):=(c.zA[i]?).bind fun x=>if zmr m c x=0 then none else some ((i:Int),zmr m c x)
def gT (c:zH) (i:Nat):Option (Int × Int):=(c.zS[i]?).bind fun t=>if zo2 c t=true then none else some ((i:Int),3)
def zo5 (m:zJ) (c:zH):Int × Int:=
 match(List.range c.zA.length).findSome? (gI m c)with
 | some r=>r
 | none=>match(List.range c.zS.length).findSome? (gT c)with
  | some r=>r
  | none=>((c.zA.length:Int),0)
theorem zada (N:Nat) (hN:1048600<N) {m:zJ} (hm:2≤m.Registers∧m.Registers≤8) {c:zH} (hs:StoOk c.Storage) (hc:Wft En 1048576 Ty.zH c):
 ((zo (zp.r0 N) N (c.zA,(c.zA.length:Int),0,m,c)).bind fun z10=>
 zbu z10 (fun z=>some z) (fun y9=>(zo (zp.r2 N) N (y9.2.2.2.2.zS,(y9.2.2.2.2.zS.length:Int),0,y9.2.2.2.2)).bind fun z12=>zbu z12 (fun z=>
 some z) (fun y11=>some ((y11.2.2.2.zA.length:Int),0))))=some (zo5 m c):=by
 obtain⟨w1,w2,w3,w4,w5⟩:=zqa hc
 have l1:=zd5 (f:=zp.r0 N) (fun i=>(c.zA,(c.zA.length:Int),(i:Int),m,c)) (gI m c) c.zA.length
  (fun i hi=>by
   have hx:=lge hi;have hb:=(z6j N (by omega) hm hs (by omega) (w5 _ (List.getElem_mem hi))).1;simp only [zp.r0,zp.b0,zau,hx,obs,dct (show(i:Int)<(c.zA.length:Int)by omega),ctr,eD,eP,eS,eM,eC,eX,eN,gI,hb];rw [w6e]
   by_cases h0:zmr m c c.zA[i]=0<;>simp [h0,zdq])
  (by simp only [zp.r0,zp.b0,dcf (show ¬(c.zA.length:Int)<(c.zA.length:Int)by omega),cfa]) (N:=N) (by omega)
 have l2:=zd5 (f:=zp.r2 N) (fun i=>(c.zS,(c.zS.length:Int),(i:Int),c)) (gT c) c.zS.length
  (fun i hi=>by
   have hx:=lge hi;simp only [zp.r2,zp.b2,zau,hx,obs,dct (show(i:Int)<(c.zS.length:Int)by omega),ctr,gT,zae7 c (by omega)];rw [w6e];cases zo2 c c.zS[i]<;>simp)
  (by simp only [zp.r2,zp.b2,dcf (show ¬(c.zS.length:Int)<(c.zS.length:Int)by omega),cfa]) (N:=N) (by omega)
 simp only [nc0]at l1 l2
 rw [l1]
 unfold zo5
 simp only [obs]
 cases(List.range c.zA.length).findSome? (gI m c)with
 | some r=>rfl
 | none=>
  simp only [zbu];rw [l2];simp only [obs];cases(List.range c.zS.length).findSome? (gT c)<;>rfl
theorem zzx (N:Nat) (hN:1048600<N) {m:zJ} (hm:2≤m.Registers∧m.Registers≤8) {c:zH} (hs:StoOk c.Storage) (hc:Wft En 1048576 Ty.zH c):
 ((zo (zac.r1 N) N (0,m,c)).bind fun z6=>
 zbu z6 (fun z=>some z) (fun y5=>(zo (zac.r3 N) N (0,y5.2.2)).bind fun z8=>zbu z8 (fun z=>some z) (fun y7=>
 some ((y7.2.zA.length:Int),0))))=some (zo5 m c):=by
 obtain⟨w1,w2,w3,w4,w5⟩:=zqa hc
 have l1:=zd5 (f:=zac.r1 N) (fun i=>((i:Int),m,c)) (gI m c) c.zA.length
  (fun i hi=>by
   have hx:=lge hi;have hb:=(z6j N (by omega) hm hs (by omega) (w5 _ (List.getElem_mem hi))).2;simp only [zac.r1,zac.b1,zau,hx,obs,dct (show(i:Int)<(c.zA.length:Int)by omega),ctr,eD,eP,eS,eM,eC,eX,eN,gI,hb];rw [w6e]
   by_cases h0:zmr m c c.zA[i]=0<;>simp [h0,zdq])
  (by simp only [zac.r1,zac.b1,dcf (show ¬(c.zA.length:Int)<(c.zA.length:Int)by omega),cfa]) (N:=N) (by omega)
 have l2:=zd5 (f:=zac.r3 N) (fun i=>((i:Int),c)) (gT c) c.zS.length
  (fun i hi=>by
   have hx:=lge hi;simp only [zac.r3,zac.b3,zau,hx,obs,dct (show(i:Int)<(c.zS.length:Int)by omega),ctr,gT,orB,zg2,zaen];rw [w6e (n:=(i:Int)+1),w6e (n:=(c.zA.length:Int)-1)];have bl:∀a b d e:Bool,((!(a&&b)|| !d)|| !e)= !(a&&(b&&(d&&e))):=fun a b d e=>by cases a<;>cases b<;>cases d<;>cases e<;>rfl
   simp only [zg2,obs,orB,bl,←zo2.eq_def];cases zo2 c c.zS[i]<;>simp)
  (by simp only [zac.r3,zac.b3,dcf (show ¬(c.zS.length:Int)<(c.zS.length:Int)by omega),cfa]) (N:=N) (by omega)
 simp only [nc0]at l1 l2
 rw [l1]
 unfold zo5
 simp only [obs]
 cases(List.range c.zA.length).findSome? (gI m c)with
 | some r=>rfl
 | none=>
  simp only [zbu];rw [l2];simp only [obs];cases(List.range c.zS.length).findSome? (gT c)<;>rfl
theorem zadw (n lo hi:Int):ze7 n lo hi=some (inB n lo hi):=by
 unfold ze7 inB
 cases decide (lo≤n)<;>rfl
theorem zr5 {b:ByteArray} {i:Int} (h0:0≤i) (h1:i<(b.size:Int)):∃x,zil b i=some x:=by
 unfold zil
 rw [ifp h0]
 exact⟨_,getElem?_pos b i.toNat (by omega)⟩
theorem zwu (N:Nat) (b:ByteArray) (h:b.size<N) (hb:b.size<1000):∃x,za3 N b=some x:=by
 unfold za3
 obtain⟨s',h1,_⟩:=zmi (f:=za3.r0 N) (fun i s=>∃a:Int,s=(b,a,(b.size:Int),(i:Int))) b.size
  (fun i s hi hs=>by
   obtain⟨a,rfl⟩:=hs;obtain⟨x,hx⟩:=zr5 (b:=b) (i:=(i:Int)) (by omega) (by omega);simp only [za3.r0,za3.b0,dct (show(i:Int)<(b.size:Int)by omega),ctr,hx,obs];rw [w6e (n:=(i:Int)+1)];exact⟨_,rfl,_,rfl⟩)
  (fun s hs=>by
   obtain⟨a,rfl⟩:=hs;simp only [za3.r0,za3.b0,dcf (show ¬(b.size:Int)<(b.size:Int)by omega),cfa];exact⟨_,rfl,_,rfl⟩) h (s:=(b,0,(b.size:Int),0)) ⟨0,rfl⟩
 rw [h1]
 exact⟨_,rfl⟩
theorem z4q (N:Nat) (b:ByteArray) (hb:b.size=16) (k n:Nat) (hn:k+n≤16) (hN:20<N):∃x,zbt N b (k:Int) (n:Int)=some x:=by
 unfold zbt
 obtain⟨s',h1,_⟩:=zmi (f:=zbt.r0 N) (fun i s=>∃a:Int,s=(b,(k:Int),(n:Int),a,(i:Int))) n
  (fun i s hi hs=>by
   obtain⟨a,rfl⟩:=hs;obtain⟨x,hx⟩:=zr5 (b:=b) (i:=(k:Int)+(i:Int)) (by omega) (by omega);simp only [zbt.r0,zbt.b0,dct (show(i:Int)<(n:Int)by omega),ctr];rw [w6e (n:=(k:Int)+(i:Int)),hx,w6e (n:=(i:Int)+1)];exact⟨_,rfl,_,rfl⟩)
  (fun s hs=>by
   obtain⟨a,rfl⟩:=hs;simp only [zbt.r0,zbt.b0,dcf (show ¬(n:Int)<(n:Int)by omega),cfa];exact⟨_,rfl,_,rfl⟩) (N:=N) (by omega) (s:=(b,(k:Int),(n:Int),0,0)) ⟨0,rfl⟩
 rw [h1]
 exact⟨_,rfl⟩
theorem zace (p:Pointer):∃e,zem p=some e:=by
 unfold zem
 simp only [zadw,obs,zne]
 generalize inB p.Kind 0 2=a
 generalize inB p.Address.yF 0 1099511627775=b
 generalize inB p.Address.Offset 0 16777215=c
 generalize inB p.Authority 0 1023=d
 generalize (p.Authority !=0&&p.Kind !=1)=e
 cases a<;>cases b<;>cases c<;>cases d<;>cases e<;>exact⟨_,rfl⟩
theorem zacs (p:Pointer):∃e,zfw p=some e:=by
 unfold zfw
 simp only [zg2,obs,zne,orB]
 generalize inB p.Kind 0 2=a
 generalize inB p.Address.yF 0 1099511627775=b
 generalize inB p.Address.Offset 0 16777215=c
 generalize inB p.Authority 0 1023=d
 generalize (p.Kind !=1&&p.Authority !=0)=e
 cases a<;>cases b<;>cases c<;>cases d<;>cases e<;>exact⟨_,rfl⟩
theorem zdf (b:ByteArray) (i j:Nat) (h:j≤b.size) (hij:i≤j):(b.extract i j).size=j-i:=by
 rw [ByteArray.size_extract]
 omega
theorem z8k (N:Nat) (hN:20<N) (b:ByteArray) (hb:b.size=16):∃r,zfs N b=some r:=by
 obtain⟨x1,h1⟩:=zr5 (b:=b) (i:=1) (by omega) (by omega)
 obtain⟨x0,h0⟩:=zr5 (b:=b) (i:=0) (by omega) (by omega)
 have z1:(b.extract (2:Int).toNat (4:Int).toNat).size=2:=zdf b 2 4 (by omega) (by omega)
 have z2:(b.extract (4:Int).toNat (10:Int).toNat).size=6:=zdf b 4 10 (by omega) (by omega)
 have z3:(b.extract (10:Int).toNat b.size).size=6:=(zdf b 10 b.size (by omega) (by omega)).trans (by omega)
 obtain⟨n1,e1⟩:=zwu N _ (by omega:(b.extract (2:Int).toNat (4:Int).toNat).size<N) (by omega)
 obtain⟨n2,e2⟩:=zwu N _ (by omega:(b.extract (4:Int).toNat (10:Int).toNat).size<N) (by omega)
 obtain⟨n3,e3⟩:=zwu N _ (by omega:(b.extract (10:Int).toNat b.size).size<N) (by omega)
 unfold zfs
 rw [show((b.size:Int) !=16)=false by rw [hb];rfl]
 simp only [cfa,h1,h0,obs]
 cases((x1.toNat:Int) !=0)with
 | true=>exact⟨_,rfl⟩
 | false=>
  simp only [cfa];rw [ifp,ifp,e1];simp only [obs];rw [ifp,ifp,e2];simp only [obs];rw [ifp,e3];simp only [obs];obtain⟨e,he⟩:=zace (⟨(w6 (x0.toNat:Int)),(⟨n2,n3⟩:Address),n1⟩:Pointer);rw [he];simp only [obs];cases(e !=0)<;>exact⟨_,rfl⟩
theorem z8y (N:Nat) (hN:20<N) (b:ByteArray) (hb:b.size=16):∃r,zkv N b=some r:=by
 obtain⟨x1,h1⟩:=zr5 (b:=b) (i:=1) (by omega) (by omega)
 obtain⟨x0,h0⟩:=zr5 (b:=b) (i:=0) (by omega) (by omega)
 obtain⟨n1,e1⟩:=z4q N b hb 2 2 (by omega) hN
 obtain⟨n2,e2⟩:=z4q N b hb 4 6 (by omega) hN
 obtain⟨n3,e3⟩:=z4q N b hb 10 6 (by omega) hN
 have e1':zbt N b 2 2=some n1:=e1
 have e2':zbt N b 4 6=some n2:=e2
 have e3':zbt N b 10 6=some n3:=e3
 unfold zkv
 rw [show((b.size:Int) !=16)=false by rw [hb];rfl]
 simp only [cfa,h1,h0,obs]
 cases((x1.toNat:Int) !=0)with
 | true=>exact⟨_,rfl⟩
 | false=>
  simp only [cfa,e1',e2',e3',obs];obtain⟨e,he⟩:=zacs (⟨(w6 (x0.toNat:Int)),(⟨n2,n3⟩:Address),n1⟩:Pointer);rw [he];simp only [obs];cases(e !=0)<;>exact⟨_,rfl⟩
theorem zzi (N:Nat) (hN:2000<N) (s:Storage):∃i1 e1 e2,zt N s=some (i1,e1)∧zm4 N s=some e2∧
 ((e1=e2∧e1≠0)∨(StoOk s∧s.Tags.length≤64∧(e1=0∨(e1=22∧true∈s.Tags))∧(e2=0∨(e2=22∧true∈s.Tags)))):=by
 unfold zt zm4 zb0
 try simp only [eS]
 by_cases h1:(s.Bytes.size:Int)>1024
 · rw [dct h1];exact⟨_,_,_,rfl,rfl,.inl ⟨rfl,by decide⟩⟩
 · rw [dcf h1];have hm:(s.Bytes.size:Int).tmod 16=(s.Bytes.size:Int)%16:=tme;have hd:(s.Bytes.size:Int).tdiv 16=(s.Bytes.size:Int)/16:=tde
   by_cases h2:(s.Bytes.size:Int)%16=0
   · rw [hm,hd,w6e]
     by_cases h3:(s.Tags.length:Int)=(s.Bytes.size:Int)/16
     · rw [show(((s.Bytes.size:Int)%16) !=0)=false by rw [h2];rfl,show((s.Tags.length:Int) !=(s.Bytes.size:Int)/16)=false by rw [←h3];exact bsf _];simp only [cfa];have ok:StoOk s:=⟨by omega,by omega⟩;have hw:∀i:Nat,i<s.Tags.length→w6 ((i:Int)*16)=(i:Int)*16∧w6 ((i:Int)*16+16)=(i:Int)*16+16:=fun i hi=>⟨w6e,w6e⟩;have hx:∀i:Nat,i<s.Tags.length→(s.Bytes.extract ((i:Int)*16).toNat ((i:Int)*16+16).toNat).size=16:=fun i hi=>by
        rw [zdf _ _ _ (by omega) (by omega)];omega
       have l1:=ztx (f:=zt.r1 N) (fun i t=>t=(s.Tags,(s.Tags.length:Int),(i:Int),s)) (fun r=>r.2=22∧true∈s.Tags) s.Tags.length
        (fun i t hi ht=>by
         subst ht;obtain⟨w1,w2⟩:=hw i hi;have hx1:=lge hi;simp only [zt.r1,zt.b1,zau,hx1,obs,dct (show(i:Int)<(s.Tags.length:Int)by omega),ctr];rw [w6e (n:=(i:Int)+1)];cases hb:s.Tags[i]with
         | false=>exact .inl ⟨_,rfl,rfl⟩
         | true=>
          simp only [bnt,cfa,w1,w2];rw [ifp,ifp];obtain⟨r,hr⟩:=z8k N (by omega) _ (hx i hi);rw [hr];simp only [obs];cases(r.2 !=0)with
          | true=>exact .inr ⟨_,rfl,rfl,by rw [←hb];exact List.getElem_mem hi⟩
          | false=>exact .inl ⟨_,rfl,rfl⟩)
        (fun t ht=>by
         subst ht;exact⟨_,by simp only [zt.r1,zt.b1,dcf (show ¬(s.Tags.length:Int)<(s.Tags.length:Int)by omega),cfa],rfl⟩) (N:=N) (by omega) (s:=(s.Tags,(s.Tags.length:Int),0,s)) rfl
       have l2:=ztx (f:=zb0.r0 N) (fun i t=>t=((s.Bytes.size:Int)/16,(i:Int),s)) (fun r=>r.2=22∧true∈s.Tags) s.Tags.length
        (fun i t hi ht=>by
         subst ht;obtain⟨w1,w2⟩:=hw i hi;have hx1:=lge hi;simp only [zb0.r0,zb0.b0,zau,hx1,obs,dct (show(i:Int)<(s.Bytes.size:Int)/16 by omega),ctr];rw [w6e (n:=(i:Int)+1)];cases hb:s.Tags[i]with
         | false=>exact .inl ⟨_,rfl,rfl⟩
         | true=>
          simp only [ctr,zi5,w1,w2];rw [ifp,ifp];simp only [obs];obtain⟨r,hr⟩:=z8y N (by omega) _ (hx i hi);rw [hr];simp only [obs];cases(r.2 !=0)with
          | true=>exact .inr ⟨_,rfl,rfl,by rw [←hb];exact List.getElem_mem hi⟩
          | false=>exact .inl ⟨_,rfl,rfl⟩)
        (fun t ht=>by
         subst ht;exact⟨_,by simp only [zb0.r0,zb0.b0,dcf (show ¬(s.Tags.length:Int)<(s.Bytes.size:Int)/16 by omega),cfa],rfl⟩) (N:=N) (by omega) (s:=((s.Bytes.size:Int)/16,0,s)) rfl
       have r1:∃i1 e1,((zo (zt.r1 N) N (s.Tags,(s.Tags.length:Int),0,s)).bind fun z2=>zbu z2 (fun z=>some z) (fun y1=>some ((y1.2.2.2.Tags.length:Int),(0:Int))))=some (i1,e1)∧(e1=0∨(e1=22∧true∈s.Tags)):=by
        rcases l1 with⟨t,g1,_⟩|⟨r,g1,g2⟩
        · rw [g1];exact⟨_,_,rfl,.inl rfl⟩
        · rw [g1];exact⟨r.1,r.2,rfl,.inr g2⟩
       have r2:∃e2,((((zo (zb0.r0 N) N ((s.Bytes.size:Int)/16,0,s)).bind fun z2=>zbu z2 (fun z=>some z) (fun y1=>some (y1.1,(0:Int)))).bind fun r1=>some r1.2)=some e2)∧(e2=0∨(e2=22∧true∈s.Tags)):=by
        rcases l2 with⟨t,g1,_⟩|⟨r,g1,g2⟩
        · rw [g1];exact⟨_,rfl,.inl rfl⟩
        · rw [g1];exact⟨r.2,rfl,.inr g2⟩
       obtain⟨i1,e1,g1,g2⟩:=r1;obtain⟨e2,g3,g4⟩:=r2;exact⟨i1,e1,e2,g1,g3,.inr ⟨ok,by omega,g2,g4⟩⟩
     · rw [show(((s.Bytes.size:Int)%16) !=0)=false by rw [h2];rfl,show((s.Tags.length:Int) !=(s.Bytes.size:Int)/16)=true by rw [zdq];exact dct h3];exact⟨_,_,_,rfl,rfl,.inl ⟨rfl,by decide⟩⟩
   · rw [hm,show(((s.Bytes.size:Int)%16) !=0)=true by rw [zdq];exact dct h2];exact⟨_,_,_,rfl,rfl,.inl ⟨rfl,by decide⟩⟩
theorem zae8 (N:Nat) (l:List Bool) (h:l.length<N) (hl:l.length<1000000000):zf7 N l true=some (l.contains true):=by
 unfold zf7 zby
 have:=zd5 (f:=zby.r0 N) (fun i=>(l,true,(l.length:Int),(i:Int))) (fun i=>(l[i]?).bind fun x=>if x=true then some (i:Int)else none) l.length
  (fun i hi=>by
   have hx:=lge hi;simp only [zby.r0,zby.b0,zau,hx,obs,dct (show(i:Int)<(l.length:Int)by omega),ctr];rw [w6e];cases hb:l[i]<;>simp)
  (by simp only [zby.r0,zby.b0,dcf (show ¬(l.length:Int)<(l.length:Int)by omega),cfa]) h
 simp only [nc0]at this
 rw [this]
 simp only [obs]
 cases hfs:(List.range l.length).findSome? (fun i:Nat=>(l[i]?).bind fun x=>if x=true then some (i:Int)else none)with
 | some r=>
  simp only [zbu,obs];obtain⟨i,hi,hr⟩:=eof hfs;rw [Option.bind_eq_some_iff]at hr;obtain⟨x,hx,hr⟩:=hr;split at hr
  · rename_i hb;cases hr;have:l.contains true=true:=by rw [List.contains_iff_mem,←hb];exact lmg hx
    rw [this];simp
  · cases hr
 | none=>
  simp only [zbu,obs];rw [List.findSome?_eq_none_iff]at hfs;have:l.contains true=false:=by
   rw [Bool.eq_false_iff];intro hc;rw [List.contains_iff_mem]at hc;obtain⟨i,hi⟩:=List.getElem?_of_mem hc;have:=hfs i (by simp;exact(gei hi).1);rw [hi]at this;simp at this
  rw [this];rfl
theorem z18 (N:Nat) (s:Storage) (h:s.Tags.length≤64) (hN:2000<N):∃l,zci N s=some l∧(decide ((l.length:Int)>0))=s.Tags.contains true:=by
 unfold zci
 obtain⟨s',h1,l,h2,h3,h4⟩:=zmi (f:=zci.r0 N) (fun i t=>∃l:List Int,t=(l,(i:Int),s)∧l.length≤i∧(decide ((l.length:Int)>0))=(s.Tags.take i).contains true) s.Tags.length
  (fun i t hi ht=>by
   obtain⟨l,rfl,h3,h4⟩:=ht;have hx:=lge hi;have rm:Nat.ble ((l.length+([(w6 ((i:Int)*16))]:List Int).length)*8) zr=true:=Nat.ble_eq_true_of_le (by unfold zr;simp;omega);simp only [zci.r0,zci.b0,zau,hx,obs,dct (show(i:Int)<(s.Tags.length:Int)by omega),ctr,rm];rw [w6e (n:=(i:Int)+1)];have tk:s.Tags.take (i+1)=s.Tags.take i++[s.Tags[i]]:=by rw [List.take_add_one,hx];rfl
   cases hb:s.Tags[i]with
   | true=>exact⟨_,rfl,_,rfl,by simp;omega,by rw [tk,hb];simp⟩
   | false=>exact⟨_,rfl,_,rfl,by omega,by rw [tk,hb,h4];simp⟩)
  (fun t ht=>by
   obtain⟨l,rfl,h3,h4⟩:=ht;simp only [zci.r0,zci.b0,dcf (show ¬(s.Tags.length:Int)<(s.Tags.length:Int)by omega),cfa];exact⟨_,rfl,l,rfl,h3,h4⟩) (N:=N) (by omega) (s:=([],0,s)) ⟨[],rfl,by simp,by simp⟩
 rw [h1,h2]
 exact⟨l,rfl,by rw [h4,List.take_length]⟩
theorem zac0 {c:zH} (hc:Wft En 1048576 Ty.zH c):zkg c=some c:=by
 obtain⟨w1,w2,w3,w4,w5⟩:=zqa hc
 unfold zkg zc6 zjs
 rw [show Nat.ble (c.Storage.Tags.length*1) zr=true from Nat.ble_eq_true_of_le (by unfold zr;omega),show Nat.ble (c.zA.length*224) zr=true from Nat.ble_eq_true_of_le (by unfold zr;omega),show Nat.ble (c.zS.length*32) zr=true from Nat.ble_eq_true_of_le (by unfold zr;omega)]
 rfl
theorem zabt (N:Nat) (hN:1048600<N) (m:zJ) {c:zH} (hc:Wft En 1048576 Ty.zH c):∃r,zp N m c=some r∧zac N m c=some r:=by
 obtain⟨e,he1,he2,he3⟩:=zvu m
 obtain⟨i1,e1,e2,hs1,hs2,hs⟩:=zzi N (by omega) c.Storage
 obtain⟨w1,w2,w3,w4,w5⟩:=zqa hc
 have f3:∀a b d:Int,za1 N [a,b,d]=some (zhh [a,b,d]):=fun a b d=>z0e N _ (by simp;omega) (by simp)
 unfold zp zac
 try simp only [eS,eM,eC]
 rw [he1,he2,hs1,hs2]
 simp only [obs]
 by_cases h0:e=0
 · subst h0;have hm:=he3 rfl;simp only [bsf,cfa];rcases hs with⟨rfl,hs⟩|⟨ok,htl,hs3,hs4⟩
   · rw [show(e1 !=0)=true by rw [zdq];exact dct hs];exact⟨_,rfl,rfl⟩
   · obtain⟨l,hl1,hl2⟩:=z18 N c.Storage htl (by omega);rw [zae8 N _ (by omega) (by omega),hl1];simp only [obs,zui,f3,orB,hl2]
     by_cases ht:c.Storage.Tags.contains true=true
     · rw [ht];refine⟨(0,22),?_,?_⟩
       · rcases hs3 with rfl|⟨rfl,_⟩
         · simp [zhh]
         · rfl
       · rcases hs4 with rfl|⟨rfl,_⟩
         · rfl
         · rfl
     · have ht':c.Storage.Tags.contains true=false:=by simpa using ht
       have hn:¬true∈c.Storage.Tags:=fun hh=>ht (List.contains_iff_mem.2 hh);obtain rfl:e1=0:=hs3.resolve_right fun hh=>hn hh.2;obtain rfl:e2=0:=hs4.resolve_right fun hh=>hn hh.2;rw [ht'];have hl1:=zada N hN hm ok hc;have hl2:=zzx N hN hm ok hc
       by_cases hz:(c.zA.length:Int)=0
       · refine⟨(0,1),?_,?_⟩
         · simp [zhh,hz]
         · simp [hz]
       · cases hbig:(decide ((c.zA.length:Int)>240)||decide ((c.zS.length:Int)>40))with
         | true=>
          refine⟨(0,2),?_,?_⟩
          · simp only [bsf,cfa,ctr,obs,zbc,dcf hz,zhh,if_true];rfl
          · simp only [bsf,cfa,ctr,obs,zbc,dcf hz]
         | false=>
          refine⟨zo5 m c,?_,?_⟩
          · rw [←hl1];simp only [bsf,cfa,obs,zbc,dcf hz,zhh,if_true]
          · rw [←hl2];simp only [bsf,cfa,obs,zbc,dcf hz]
 · rw [show(e !=0)=true by rw [zdq];exact dct h0];exact⟨_,rfl,rfl⟩
theorem zabh (N:Nat) (hN:1048600<N) {c:zH} (hc:Wft En 1048576 Ty.zH c):∃b,zfd N c=some b:=by
 obtain⟨w1,w2,w3,w4,w5⟩:=zqa hc
 unfold zfd
 have ft:∀s,∃b,zh6 s=some b:=fun s=>by
  unfold zh6;cases decide ((s.Bytes.size:Int)≤1072)<;>exact⟨_,rfl⟩
 have e1:∀i:Nat,i≤c.zA.length→(cond (decide ((i:Int)<(c.zA.length:Int))) (some (decide ((i:Int)<244))) (some false))=some (decide ((i:Int)<(c.zA.length:Int))&&decide ((i:Int)<244)):=fun i _=>zne _ _
 have l1:=ztx (f:=zfd.r0 N) (fun i t=>t=((i:Int),c)) (fun r=>True) (min c.zA.length 244)
  (fun i t hi ht=>by
   subst ht;have hlt:i<c.zA.length:=by omega
   have hx:=lge hlt;simp only [zfd.r0,zfd.b0,zne,obs,dct (show(i:Int)<(c.zA.length:Int)by omega),dct (show(i:Int)<244 by omega),Bool.and_self,ctr,zau,hx,orB];rw [w6e (n:=(i:Int)+1)];cases(decide ((c.zA[i].Text.size:Int)>300)||decide ((c.zA[i].Other.size:Int)>300))with
   | true=>exact .inr ⟨_,rfl,trivial⟩
   | false=>exact .inl ⟨_,rfl,rfl⟩)
  (fun t ht=>by
   subst ht;have e:(decide (((min c.zA.length 244:Nat):Int)<(c.zA.length:Int))&&decide (((min c.zA.length 244:Nat):Int)<244))=false:=by
    by_cases h:c.zA.length<244
    · rw [dcf (show ¬((min c.zA.length 244:Nat):Int)<(c.zA.length:Int)by omega)];rfl
    · rw [dcf (show ¬((min c.zA.length 244:Nat):Int)<244 by omega)];simp
   simp only [zfd.r0,zfd.b0,zne,obs,e,cfa];exact⟨_,rfl,rfl⟩) (N:=N) (by omega) (s:=(0,c)) rfl
 rcases l1 with⟨t,g1,_⟩|⟨r,g1,_⟩
 · rw [g1];simp only [obs,zbu];obtain⟨b,hb⟩:=ft t.2.Storage;rw [hb];simp only [obs,zne];exact⟨_,rfl⟩
 · rw [g1];exact⟨_,rfl⟩
theorem zaep {m:zJ} {c:zH} {n:Int} (h:zo5 m c=(n,0)):∀x∈c.zA,zmr m c x=0:=by
 intro x hx
 refine cbc fun h0=> ?_
 unfold zo5 at h
 obtain⟨i,hi⟩:=List.getElem?_of_mem hx
 cases hf:(List.range c.zA.length).findSome? (gI m c)with
 | none=>
  rw [List.findSome?_eq_none_iff]at hf;have:=hf i (by simp;exact(gei hi).1);unfold gI at this;rw [hi]at this;simp [h0]at this
 | some r=>
  rw [hf]at h;simp only at h;subst h;obtain⟨j,_,hj⟩:=eof hf;unfold gI at hj;rw [Option.bind_eq_some_iff]at hj;obtain⟨y,_,hy⟩:=hj
  by_cases h1:zmr m c y=0
  · simp [h1]at hy
  · rw [ifn h1]at hy;simp only [Option.some.injEq,Prod.mk.injEq]at hy;exact h1 hy.2
theorem z15 {α σ:Type} {f:σ→Option (Round Int σ)} (l:List α) (p:α→Bool) (S:Nat→σ) (hstep:∀i x,l[i]?=some x→f (S i)=some (cond (p x) (.result (i:Int)) (.again (S (i+1)))))
 (hl:f (S l.length)=some (.leave (S l.length))) {N:Nat} (hN:l.length<N):zo f N (S 0)=some (match l.findIdx? p with|some i=> .inl (i:Int)|none=> .inr (S l.length)):=by
 have:=zd5 (f:=f) S (fun i=>(l[i]?).bind fun x=>if p x=true then some (i:Int)else none) l.length (fun i hi=>by
  have hx:=lge hi;rw [hstep i _ hx];simp only [hx,obs];cases hb:p l[i]<;>simp) hl hN
 rw [this]
 congr 1
 have key:(List.range l.length).findSome? (fun i:Nat=>(l[i]?).bind fun x=>if p x=true then some (i:Int)else none)=(l.findIdx? p).map (fun i=>(i:Int)):=by
  cases hf:l.findIdx? p with
  | none=>
   rw [List.findIdx?_eq_none_iff]at hf;rw [List.findSome?_eq_none_iff.2]
   · rfl
   · intro i hi;have hi':i<l.length:=by simpa using hi
     have h9:=hf _ (List.getElem_mem hi');rw [lge hi',obs,ifn (by simp [h9])]
  | some k=>
   rw [List.findIdx?_eq_some_iff_getElem]at hf;obtain⟨hk,h1,h2⟩:=hf;show _=some (k:Int);have:(List.range l.length).findSome? (fun i:Nat=>(l[i]?).bind fun x=>if p x=true then some (i:Int)else none)=some (k:Int):=by
    rw [List.findSome?_eq_some_iff];refine⟨List.range k,k,(List.range' (k+1) (l.length-(k+1))),?_,?_,?_⟩
    · apply List.ext_getElem
      · simp;omega
      · intro i h3 h4;rw [List.getElem_append];split
        · simp
        · rename_i h5;have h5':k≤i:=by simpa using h5
          by_cases e:i=k
          · subst e;simp
          · have:i-k≠0:=by omega
            rw [List.getElem_cons];simp [this];omega
    · rw [lge hk];simp [h1]
    · intro x hx;have hx':x<k:=by simpa using hx
      rw [lge (by omega)];have:=h2 x hx';simp [this]
   rw [this]
 rw [key]
 cases l.findIdx? p<;>rfl
theorem zy8 {α:Type} (l:List α) (p:α→Bool):(l.findIdx? p).isSome=l.any p:=by
 cases h:l.findIdx? p with
 | none=>
  rw [List.findIdx?_eq_none_iff]at h
  symm
  simp only [Option.isSome_none,List.any_eq_false];intro x hx;simp [h x hx]
 | some k=>
  rw [List.findIdx?_eq_some_iff_getElem]at h;obtain⟨hk,h1,h2⟩:=h
  symm
  simp only [Option.isSome_some,List.any_eq_true];exact⟨_,List.getElem_mem hk,h1⟩
theorem coll {α β σ:Type} {f:σ→Option (Stp σ)} (l:List α) (g:α→Option β) (S:Nat→List β→σ) (hstep:∀i x acc,l[i]?=some x→acc.length≤i→f (S i acc)=some (.again (S (i+1) (acc++(g x).toList))))
 (hl:∀acc,f (S l.length acc)=some (.leave (S l.length acc))) {N:Nat} (hN:l.length<N):zh f N (S 0 [])=some (S l.length (l.filterMap g)):=by
 have e0:∀i,((l.take i).filterMap g).length≤i:=fun i=>Nat.le_trans (List.length_filterMap_le _ _) (by simp;omega)
 have:=zco (f:=f) (fun i=>S i ((l.take i).filterMap g)) l.length (fun i hi=>by
  have hx:=lge hi;rw [hstep i _ _ hx (e0 i),List.take_add_one,hx,List.filterMap_append]
  congr 3) (hl _) hN
 simpa using this
theorem z3w {α σ:Type} {f:σ→Option (Stp σ)} (l:List α) (p:α→Bool) (S:List α→Nat→Nat→σ)
 (hstep:∀s i j x,s[j]?=some x→i<j→s.length=l.length→x∈l→f (S s i j)=some (.again (cond (p x) (S s i (j+1)) (S (s.set i x) (i+1) (j+1)))))
 (hl:∀s i,s.length=l.length→i≤l.length→f (S s i l.length)=some (.leave (S s i l.length))) {k:Nat} (hk:l.findIdx? p=some k) {N:Nat} (hN:l.length<N):
 ∃s i,zh f N (S l k (k+1))=some (S s i l.length)∧s.length=l.length∧i≤l.length∧s.take i=l.filter (fun x=> !p x):=by
 rw [List.findIdx?_eq_some_iff_getElem]at hk
 obtain⟨hkl,h1,h2⟩:=hk
 have first:l.take k=(l.take (k+1)).filter (fun x=> !p x):=by
  rw [List.take_add_one,lge hkl,List.filter_append];simp only [Option.toList_some,List.filter_cons,h1,bnt,Bool.false_eq_true,if_false,List.filter_nil,List.append_nil]
  symm
  rw [List.filter_eq_self];intro x hx;obtain⟨j,hj,rfl⟩:=List.mem_take_iff_getElem.1 hx;have:=h2 j (by omega);simpa using this
 let I:Nat→σ→Prop:=fun t q=>∃s i,q=S s i (k+1+t)∧s.length=l.length∧i<k+1+t∧(∀j,k+1+t≤j→s[j]?=l[j]?)∧s.take i=(l.take (k+1+t)).filter (fun x=> !p x)
 obtain⟨q,hq,hI⟩:=zmi (f:=f) I (l.length-(k+1)) (by
  rintro t q ht ⟨s,i,rfl,hs,hi,hsame,htake⟩
  have hlt:k+1+t<l.length:=by omega
  have hx:=lge hlt;have hsx:s[k+1+t]?=some l[k+1+t]:=by rw [hsame _ (Nat.le_refl _),hx]
  refine⟨_,hstep s i _ _ hsx hi hs (List.getElem_mem hlt),?_⟩;cases hp:p l[k+1+t]with
  | true=>
   refine⟨s,i,rfl,hs,by omega,fun j hj=>hsame j (by omega),?_⟩;rw [htake,←Nat.add_assoc,List.take_add_one,hx,List.filter_append];simp [hp]
  | false=>
   refine⟨s.set i l[k+1+t],i+1,rfl,by simpa using hs,by omega,fun j hj=> ?_,?_⟩
   · rw [List.getElem?_set_ne (by omega)];exact hsame j (by omega)
   · rw [List.take_add_one,List.getElem?_set_self (by omega),List.take_set_of_le (Nat.le_refl _),htake,←Nat.add_assoc,List.take_add_one,hx,List.filter_append];simp [hp])
  (by
   rintro q ⟨s,i,rfl,hs,hi,hsame,htake⟩
   have e:k+1+(l.length-(k+1))=l.length:=by omega
   rw [e]at hi htake⊢;exact⟨_,hl s i hs (by omega),s,i,by rw [e],hs,by omega,fun j hj=>hsame j hj,by rw [e];exact htake⟩)
  (N:=N) (by omega) (s:=S l k (k+1)) ⟨l,k,rfl,rfl,by omega,fun j _=>rfl,first⟩
 obtain⟨s,i,rfl,hs,hi,hsame,htake⟩:=hI
 have e:k+1+(l.length-(k+1))=l.length:=by omega
 rw [e]at hq hi htake
 refine⟨s,i,hq,hs,by omega,?_⟩
 rw [htake,List.take_length]
theorem zqn {α:Type} {l:List α} {p:α→Bool} (h:l.findIdx? p=none):l.filter (fun x=> !p x)=l:=by
 rw [List.findIdx?_eq_none_iff]at h
 rw [List.filter_eq_self]
 intro x hx
 simp [h x hx]
def zrs (a b:zD):Bool:=a.Register==b.Register&&(a.zF.Kind==b.zF.Kind&&(a.zF.Length==b.zF.Length&&(a.zF.Scale==b.zF.Scale&&a.Offset==b.Offset)))
theorem z3c {a b:zD}:zrs a b=true↔a=b:=by
 obtain⟨r,⟨k,l,s⟩,o⟩:=a
 obtain⟨r',⟨k',l',s'⟩,o'⟩:=b
 simp only [zrs,Bool.and_eq_true,beq_iff_eq,zD.mk.injEq,DataType.mk.injEq,and_assoc]
theorem zabi (a b:zD):zex [(a.Register==b.Register),(a.zF.Kind==b.zF.Kind),(a.zF.Length==b.zF.Length),(a.zF.Scale==b.zF.Scale),(a.Offset==b.Offset)]=zrs a b:=by
 simp only [zex,zrs,List.all_cons,List.all_nil,List.foldr_cons,List.foldr_nil,Bool.and_true,id]
def znz (l:List zD) (x:zD):Bool:=l.any (zrs x)
theorem zm8 {l:List zD} {x:zD}:znz l x=true↔x∈l:=by
 unfold znz
 rw [List.any_eq_true]
 constructor
 · rintro ⟨y,hy,h⟩
   rw [z3c]at h;subst h;exact hy
 · intro h;exact⟨x,h,z3c.2 rfl⟩
theorem zyv (N:Nat) (l:List zD) (x:zD) (h:l.length<N) (hl:l.length<1000000000):zbm N l x=some (znz l x):=by
 unfold zbm zat
 have:=z15 (f:=zat.r0 N) l (zrs x) (fun i=>(l,(l.length:Int),(i:Int),x)) (fun i y hy=>by
  have hi:=(gei hy).1;simp only [zat.r0,zat.b0,zau,hy,obs,dct (show(i:Int)<(l.length:Int)by omega),ctr,zabi];rw [w6e];cases zrs x y<;>simp)
  (by simp only [zat.r0,zat.b0,dcf (show ¬(l.length:Int)<(l.length:Int)by omega),cfa]) h
 simp only [nc0]at this
 rw [this]
 have e:=zy8 l (zrs x)
 unfold znz
 cases hf:l.findIdx? (zrs x)with
 | none=>rw [hf]at e;rw [←e];simp [zbu]
 | some k=>rw [hf]at e;rw [←e];simp [zbu]
theorem zv8 (s:List zD) (i:Nat) (n:Nat) (hs:s.length=n) (hi:i≤n) (z:zD):
 (if 0≤(i:Int)∧(i:Int)≤(s.length:Int)then(if 0≤(i:Int)∧(i:Int)≤((s.take (i:Int).toNat++List.replicate (s.length-(i:Int).toNat) z).length:Int)then
  (if 0≤(0:Int)∧(0:Int)≤(i:Int)then(some (((s.take (i:Int).toNat++List.replicate (s.length-(i:Int).toNat) z).drop ((0:Int).toNat)).take ((i:Int).toNat-(0:Int).toNat)))else none)else none)else none)=some (s.take i):=by
 have h1:(s.take i++List.replicate (s.length-i) z).length=n:=by simp;omega
 rw [ifp,ifp (by rw [itn,h1];omega),ifp]
 congr 1
 simp only [itn,Int.toNat_zero,dr0,Nat.sub_zero]
 rw [List.take_append_of_le_length (by simp;omega),List.take_take,Nat.min_self]
theorem zym (l:List zD) (h:l.length≤1000000):zdk 40 l=some l:=by
 unfold zdk
 rw [show Nat.ble (l.length*40) zr=true from Nat.ble_eq_true_of_le (by show l.length*40≤2^46;omega)]
 rfl
theorem zth {n:Nat} (h:n≤1000000000):Nat.ble (n*40) zr=true:=Nat.ble_eq_true_of_le (by show n*40≤2^46;omega)
theorem zx3 {n:Nat} (h:n≤1000000):Nat.ble (n*8) zr=true:=Nat.ble_eq_true_of_le (by show n*8≤2^46;omega)
theorem ble1 {n:Nat} (h:n≤1000000):Nat.ble (n*1) zr=true:=Nat.ble_eq_true_of_le (by show n*1≤2^46;omega)
theorem zakj {n:Nat} (h:n≤1000000):Nat.ble (n*24) zr=true:=Nat.ble_eq_true_of_le (by show n*24≤2^46;omega)
theorem zafh (N:Nat) (l:List zD) (r:Int) (p:zD→Bool) (hp:∀x∈l,ze0 x r=some (p x)) (h:l.length<N) (hl:l.length≤1000000):zm N l r=some (l.filter fun f=> !(p f)):=by
 unfold zm zy
 have:=z15 (f:=zy.r0 N) l p (fun i=>(l,(l.length:Int),(i:Int),r)) (fun i y hy=>by
  have hi:=(gei hy).1;have hc:=hp y (lmg hy);simp only [zy.r0,zy.b0,hc,zau,hy,obs,dct (show(i:Int)<(l.length:Int)by omega),ctr];rw [w6e];cases p y<;>simp)
  (by simp only [zy.r0,zy.b0,dcf (show ¬(l.length:Int)<(l.length:Int)by omega),cfa]) h
 simp only [nc0]at this
 rw [this]
 cases hf:l.findIdx? p with
 | none=>simp [zbu,zqn hf]
 | some k=>
  have hk:k<l.length:=by
   rw [List.findIdx?_eq_some_iff_getElem]at hf;exact hf.1
  obtain⟨s,i,h1,h2,h3,h4⟩:=z3w (f:=zm.r0 N) l p (fun s i j=>(s,(i:Int),(j:Int),r)) (fun s i j x hx hij hs hm=>by
   have hj:=(gei hx).1;have hxi:∃y,s[i]?=some y:=⟨_,lge (by omega)⟩;obtain⟨y,hy⟩:=hxi;have hc:=hp x hm;simp only [zm.r0,zm.b0,hc,dct (show(j:Int)<(s.length:Int)by omega),ctr,ifp (show 0≤(j:Int)by omega),ifp (show(j:Int)<(s.length:Int)by omega),
    ifp (show 0≤(i:Int)by omega),ifp (show(i:Int)<(s.length:Int)by omega),itn,hx,hy,obs]
   rw [w6e (n:=(i:Int)+1),w6e (n:=(j:Int)+1)];cases p x<;>simp)
   (fun s i hs hi=>by simp only [zm.r0,zm.b0,hs,dcf (show ¬(l.length:Int)<(l.length:Int)by omega),cfa]) hf h
  have hne:((k:Int)== -1)=false:=by rw [zbc];simp
  simp only [zbu,obs,hne,cfa];rw [w6e];have h1:zh (zm.r0 N) N (l,(k:Int),(k:Int)+1,r)=some (s,(i:Int),(l.length:Int),r):=by
   have:=h1;simpa using this
  rw [h1];simp only [obs];rw [zv8 s i l.length h2 h3,h4]
theorem zaff (N:Nat) (l:List zD) (p:zD→Bool) (hp:∀x∈l,zgk x=some (p x)) (h:l.length<N) (hl:l.length≤1000000):zk N l=some (l.filter fun f=> !(p f)):=by
 unfold zk zw
 have:=z15 (f:=zw.r0 N) l p (fun i=>(l,(l.length:Int),(i:Int))) (fun i y hy=>by
  have hi:=(gei hy).1;have hc:=hp y (lmg hy);simp only [zw.r0,zw.b0,hc,zau,hy,obs,dct (show(i:Int)<(l.length:Int)by omega),ctr];rw [w6e];cases p y<;>simp)
  (by simp only [zw.r0,zw.b0,dcf (show ¬(l.length:Int)<(l.length:Int)by omega),cfa]) h
 simp only [nc0]at this
 rw [this]
 cases hf:l.findIdx? p with
 | none=>simp [zbu,zqn hf]
 | some k=>
  have hk:k<l.length:=by
   rw [List.findIdx?_eq_some_iff_getElem]at hf;exact hf.1
  obtain⟨s,i,h1,h2,h3,h4⟩:=z3w (f:=zk.r0 N) l p (fun s i j=>(s,(i:Int),(j:Int))) (fun s i j x hx hij hs hm=>by
   have hj:=(gei hx).1;have hxi:∃y,s[i]?=some y:=⟨_,lge (by omega)⟩;obtain⟨y,hy⟩:=hxi;have hc:=hp x hm;simp only [zk.r0,zk.b0,hc,dct (show(j:Int)<(s.length:Int)by omega),ctr,ifp (show 0≤(j:Int)by omega),ifp (show(j:Int)<(s.length:Int)by omega),
    ifp (show 0≤(i:Int)by omega),ifp (show(i:Int)<(s.length:Int)by omega),itn,hx,hy,obs]
   rw [w6e (n:=(i:Int)+1),w6e (n:=(j:Int)+1)];cases p x<;>simp)
   (fun s i hs hi=>by simp only [zk.r0,zk.b0,hs,dcf (show ¬(l.length:Int)<(l.length:Int)by omega),cfa]) hf h
  have hne:((k:Int)== -1)=false:=by rw [zbc];simp
  simp only [zbu,obs,hne,cfa];rw [w6e];have h1:zh (zk.r0 N) N (l,(k:Int),(k:Int)+1)=some (s,(i:Int),(l.length:Int)):=by
   have:=h1;simpa using this
  rw [h1];simp only [obs];rw [zv8 s i l.length h2 h3,h4]
theorem zafg (N:Nat) (l:List zD) (a b:Int) (p:zD→Bool) (hp:∀x∈l,zez N x a b=some (p x)) (h:l.length<N) (hl:l.length≤1000000):zl N l a b=some (l.filter fun f=> !(p f)):=by
 unfold zl zx
 have:=z15 (f:=zx.r0 N) l p (fun i=>(l,(l.length:Int),(i:Int),a,b)) (fun i y hy=>by
  have hi:=(gei hy).1;have hc:=hp y (lmg hy);simp only [zx.r0,zx.b0,hc,zau,hy,obs,dct (show(i:Int)<(l.length:Int)by omega),ctr];rw [w6e];cases p y<;>simp)
  (by simp only [zx.r0,zx.b0,dcf (show ¬(l.length:Int)<(l.length:Int)by omega),cfa]) h
 simp only [nc0]at this
 rw [this]
 cases hf:l.findIdx? p with
 | none=>simp [zbu,zqn hf]
 | some k=>
  have hk:k<l.length:=by
   rw [List.findIdx?_eq_some_iff_getElem]at hf;exact hf.1
  obtain⟨s,i,h1,h2,h3,h4⟩:=z3w (f:=zl.r0 N) l p (fun s i j=>(s,(i:Int),(j:Int),a,b)) (fun s i j x hx hij hs hm=>by
   have hj:=(gei hx).1;have hxi:∃y,s[i]?=some y:=⟨_,lge (by omega)⟩;obtain⟨y,hy⟩:=hxi;have hc:=hp x hm;simp only [zl.r0,zl.b0,hc,dct (show(j:Int)<(s.length:Int)by omega),ctr,ifp (show 0≤(j:Int)by omega),ifp (show(j:Int)<(s.length:Int)by omega),
    ifp (show 0≤(i:Int)by omega),ifp (show(i:Int)<(s.length:Int)by omega),itn,hx,hy,obs]
   rw [w6e (n:=(i:Int)+1),w6e (n:=(j:Int)+1)];cases p x<;>simp)
   (fun s i hs hi=>by simp only [zl.r0,zl.b0,hs,dcf (show ¬(l.length:Int)<(l.length:Int)by omega),cfa]) hf h
  have hne:((k:Int)== -1)=false:=by rw [zbc];simp
  simp only [zbu,obs,hne,cfa];rw [w6e];have h1:zh (zl.r0 N) N (l,(k:Int),(k:Int)+1,a,b)=some (s,(i:Int),(l.length:Int),a,b):=by
   have:=h1;simpa using this
  rw [h1];simp only [obs];rw [zv8 s i l.length h2 h3,h4]
theorem zafi (N:Nat) (l:List zD) (t:List zD) (p:zD→Bool) (hp:∀x∈l,zel N x t=some (p x)) (h:l.length<N) (hl:l.length≤1000000):zn N l t=some (l.filter fun f=> !(p f)):=by
 unfold zn zaa
 have:=z15 (f:=zaa.r0 N) l p (fun i=>(l,(l.length:Int),(i:Int),t)) (fun i y hy=>by
  have hi:=(gei hy).1;have hc:=hp y (lmg hy);simp only [zaa.r0,zaa.b0,hc,zau,hy,obs,dct (show(i:Int)<(l.length:Int)by omega),ctr];rw [w6e];cases p y<;>simp)
  (by simp only [zaa.r0,zaa.b0,dcf (show ¬(l.length:Int)<(l.length:Int)by omega),cfa]) h
 simp only [nc0]at this
 rw [this]
 cases hf:l.findIdx? p with
 | none=>simp [zbu,zqn hf]
 | some k=>
  have hk:k<l.length:=by
   rw [List.findIdx?_eq_some_iff_getElem]at hf;exact hf.1
  obtain⟨s,i,h1,h2,h3,h4⟩:=z3w (f:=zn.r0 N) l p (fun s i j=>(s,(i:Int),(j:Int),t)) (fun s i j x hx hij hs hm=>by
   have hj:=(gei hx).1;have hxi:∃y,s[i]?=some y:=⟨_,lge (by omega)⟩;obtain⟨y,hy⟩:=hxi;have hc:=hp x hm;simp only [zn.r0,zn.b0,hc,dct (show(j:Int)<(s.length:Int)by omega),ctr,ifp (show 0≤(j:Int)by omega),ifp (show(j:Int)<(s.length:Int)by omega),
    ifp (show 0≤(i:Int)by omega),ifp (show(i:Int)<(s.length:Int)by omega),itn,hx,hy,obs]
   rw [w6e (n:=(i:Int)+1),w6e (n:=(j:Int)+1)];cases p x<;>simp)
   (fun s i hs hi=>by simp only [zn.r0,zn.b0,hs,dcf (show ¬(l.length:Int)<(l.length:Int)by omega),cfa]) hf h
  have hne:((k:Int)== -1)=false:=by rw [zbc];simp
  simp only [zbu,obs,hne,cfa];rw [w6e];have h1:zh (zn.r0 N) N (l,(k:Int),(k:Int)+1,t)=some (s,(i:Int),(l.length:Int),t):=by
   have:=h1;simpa using this
  rw [h1];simp only [obs];rw [zv8 s i l.length h2 h3,h4]
theorem zri (N:Nat) (l:List zD) (r:Int) (h:l.length<N) (hl:l.length≤1000000):zd3 N l r=some (l.filter fun f=> !(f.Register==r)):=by
 unfold zd3
 rw [zym l hl,obs,zafh N l r (fun f=>f.Register==r) (fun x _=>rfl) h hl]
 rfl
theorem zaec (N:Nat) (l:List zD) (h:l.length<N) (hl:l.length≤1000000):zjj N l=some (l.filter fun f=>f.Offset== -1):=by
 unfold zjj
 rw [zym l hl,obs,zaff N l (fun f=>f.Offset != -1) (fun x _=>rfl) h hl]
 simp only [obs]
 congr 2
 funext f
 cases he:(f.Offset== -1)<;>simp [bne,he]
theorem z94 (N:Nat) (l t:List zD) (h:l.length<N) (hl:l.length≤1000000) (h':t.length<N) (hl':t.length<1000000000):zh1 N l t=some (l.filter fun f=>znz t f):=by
 unfold zh1
 rw [zym l hl,obs,zafi N l t (fun f=> !znz t f) (fun x _=>by unfold zel;rw [zyv N t x h' hl'];rfl) h hl]
 simp only [obs,Bool.not_not]
theorem z7i (N:Nat) (hN:10<N) {t:DataType} (h:zb3 t=0):zg9 N t=some (szE t):=by
 unfold zg9 zfc
 rw [zyi N hN,h]
 simp [z2f h]
def apB (a b:Int) (x:zD):Bool:=(x.Offset != -1&&decide (x.Offset<w6 (a+b)))&&decide (a<w6 (x.Offset+szE x.zF))
theorem z35 (N:Nat) (hN:10<N) (l:List zD) (a b:Int) (ht:∀x∈l,zb3 x.zF=0) (h:l.length<N) (hl:l.length≤1000000):zgn N l a b=some (l.filter fun f=> !apB a b f):=by
 unfold zgn
 rw [zym l hl,obs,zafg N l a b (apB a b) (fun x hx=> ?_) h hl]
 · rfl
 · unfold zez apB;rw [z7i N hN (ht x hx)];cases(x.Offset != -1)<;>cases decide (x.Offset<w6 (a+b))<;>simp
theorem zaki {α β σ:Type} {f:σ→Option (Stp σ)} (l:List α) (g:α→List β) (M:Nat) (hM:∀x∈l,(g x).length≤M) (S:Nat→List β→σ) (a0:List β)
 (hstep:∀i x acc,l[i]?=some x→acc.length≤a0.length+i*M→f (S i acc)=some (.again (S (i+1) (acc++g x))))
 (hl:∀acc,f (S l.length acc)=some (.leave (S l.length acc))) {N:Nat} (hN:l.length<N):zh f N (S 0 a0)=some (S l.length (a0++l.flatMap g)):=by
 have e0:∀i,((l.take i).flatMap g).length≤i*M:=by
  intro i
  induction i with
  | zero=>simp
  | succ i ih=>
   rw [List.take_add_one,List.flatMap_append,lna,Nat.succ_mul];refine Nat.add_le_add ih ?_;cases hx:l[i]? with
   | none=>simp
   | some x=>simpa using hM x (lmg hx)
 have:=zco (f:=f) (fun i=>S i (a0++(l.take i).flatMap g)) l.length (fun i hi=>by
  have hx:=lge hi;rw [hstep i _ _ hx (by rw [lna];have:=e0 i;omega),List.take_add_one,hx,List.flatMap_append];simp) (hl _) hN
 simpa using this
def zkt (a r:Int) (x:zD):Option zD:=if x.Register=a then some ⟨r,x.zF,x.Offset⟩else none
theorem z36 (N:Nat) (l:List zD) (a r:Int) (h:l.length<N) (hl:l.length≤100000):zbn N l a r=some (l.filterMap (zkt a r)):=by
 unfold zbn
 have:=coll (f:=zbn.r0 N) l (zkt a r) (fun i acc=>(a,r,acc,l,(l.length:Int),(i:Int))) (fun i x acc hx hacc=>by
  have hi:=(gei hx).1;simp only [zbn.r0,zbn.b0,zau,hx,obs,dct (show(i:Int)<(l.length:Int)by omega),ctr,lnc,ln0,zth (show acc.length+(0+1)≤1000000000 by omega)];rw [w6e,zbc];unfold zkt
  by_cases e:x.Register=a<;>simp [e])
  (fun acc=>by simp only [zbn.r0,zbn.b0,dcf (show ¬(l.length:Int)<(l.length:Int)by omega),cfa]) h
 simp only [nc0]at this
 rw [this]
 rfl
def z14 (a b:DataType):Bool:=a.Kind==b.Kind&&(a.Length==b.Length&&a.Scale==b.Scale)
theorem z34 {a b:DataType}:z14 a b=true↔a=b:=by
 obtain⟨k,l,s⟩:=a
 obtain⟨k',l',s'⟩:=b
 simp only [z14,Bool.and_eq_true,beq_iff_eq,DataType.mk.injEq]
theorem zab8 (a b:DataType):zex [(a.Kind==b.Kind),(a.Length==b.Length),(a.Scale==b.Scale)]=z14 a b:=by
 simp only [zex,z14,Bool.and_true]
def woL (r:Int) (l:List zD):List zD:=l.filter fun f=> !(f.Register==r)
def zpd (x:zB) (l:List zD) (g:zD):List zD:=if z14 g.zF x.zF&&g.Offset==x.Place.Offset then l.filterMap (zkt g.Register x.R)else []
def zvw (x:zB) (l:List zD):List zD:=
 (woL x.R l++[⟨x.R,x.zF,-1⟩])++(if x.Place.Based then []else [⟨x.R,x.zF,x.Place.Offset⟩]++l.flatMap (zpd x l))
theorem z91 (N:Nat) (x:zB) (l:List zD) (h:l.length<N) (hl:l.length≤5000):zbx N x l=some (zvw x l):=by
 unfold zbx
 rw [zri N l x.R h (by omega)]
 have hw:(l.filter fun f=> !(f.Register==x.R)).length≤l.length:=List.length_filter_le _ _
 simp only [obs,lna,lnc,ln0]
 rw [zth (by omega),zth (by omega)]
 simp only [ctr]
 unfold zvw woL
 cases hb:x.Place.Based with
 | true=>simp
 | false=>
  simp only [cfa];have:=zaki (f:=zbx.r0 N) l (zpd x l) 5000 (fun g _=>by
   unfold zpd;split
   · exact Nat.le_trans (List.length_filterMap_le _ _) hl
   · simp) (fun i acc=>(l,acc,l,(l.length:Int),(i:Int),x)) (((l.filter fun f=> !(f.Register==x.R))++[⟨x.R,x.zF,-1⟩])++[⟨x.R,x.zF,x.Place.Offset⟩]) (fun i y acc hy hacc=>by
   have hi:=(gei hy).1;simp only [zbx.r0,zbx.b0,zau,hy,obs,dct (show(i:Int)<(l.length:Int)by omega),ctr,zab8];rw [zne,obs,z36 N l y.Register x.R h (by omega),w6e];have hla:(l.filterMap (zkt y.Register x.R)).length≤l.length:=List.length_filterMap_le _ _;have hi2:i*5000≤5000*5000:=Nat.mul_le_mul_right 5000 (by omega);simp only [lna,lnc,ln0]at hacc;unfold zpd;cases hc:(z14 y.zF x.zF&&y.Offset==x.Place.Offset)with
   | true=>simp only [ctr,obs,if_true,zth (show acc.length+(l.filterMap (zkt y.Register x.R)).length≤1000000000 by omega)];rfl
   | false=>simp)
   (fun acc=>by simp only [zbx.r0,zbx.b0,dcf (show ¬(l.length:Int)<(l.length:Int)by omega),cfa]) h
  simp only [nc0]at this;rw [this];simp
def zzf (x:zB) (l:List zD):List zD:=
 if x.Place.Based then l.filter fun f=>f.Offset== -1
 else(l.filter fun f=> !apB x.Place.Offset (szE x.zF) f)++(if x.Op==1&&znz l ⟨x.R,x.zF,-1⟩then [⟨x.R,x.zF,x.Place.Offset⟩]else [])
theorem z8i (N:Nat) (hN:10<N) (x:zB) (l:List zD) (htx:zb3 x.zF=0) (ht:∀x∈l,zb3 x.zF=0) (h:l.length<N) (hl:l.length≤5000):zhj N x l=some (zzf x l):=by
 unfold zhj zzf
 rw [zaec N l h (by omega),z7i N hN htx]
 cases hb:x.Place.Based with
 | true=>simp
 | false=>
  simp only [cfa,obs];rw [z35 N hN l _ _ ht h (by omega),zyv N l _ h (by omega)];have hw:(l.filter fun f=> !apB x.Place.Offset (szE x.zF) f).length≤l.length:=List.length_filter_le _ _;simp only [obs,zne,lnc,ln0,zth (show(l.filter fun f=> !apB x.Place.Offset (szE x.zF) f).length+(0+1)≤1000000000 by omega)];cases(x.Op==1&&znz l ⟨x.R,x.zF,-1⟩)<;>simp
structure InsX (m:zJ) (c:zH) (x:zB):Prop where
 op:0≤x.Op∧x.Op≤26
 r:x.Op=0∨x.Op=1∨x.Op=2∨x.Op=3∨x.Op=4∨x.Op=21→0≤x.R∧x.R<m.Registers
 a:x.Op=3→0≤x.A∧x.A<m.Registers
 ty:x.Op=0∨x.Op=1∨x.Op=4∨x.Op=9∨x.Op=10→zb3 x.zF=0
 kd:x.Op=0∨x.Op=1∨x.Op=4→x.zF.Kind≠0∧x.zF.Kind≠4
 pl:x.Op=0∨x.Op=1∨x.Op=9∨x.Op=10→x.Place.Based=false→0≤x.Place.Offset∧x.Place.Offset+szE x.zF≤(c.Storage.Bytes.size:Int)
 pt:x.Op=14∨x.Op=15∨x.Op=16→0≤x.Pointer∧x.Pointer<(c.Storage.Bytes.size:Int)
 tg:x.Op=6∨x.Op=7∨x.Op=8∨x.Op=18→0≤x.Target∧x.Target<(c.zA.length:Int)
theorem zt9 {t:DataType} (h:zdr t 1=0):zb3 t=0∧t.Kind≠0∧t.Kind≠4:=by
 unfold zdr at h
 rw [ifn (by decide)]at h
 by_cases h0:zb3 t=0
 · rw [ifp h0]at h;split at h
   · cases h
   · rename_i h1;refine⟨h0,?_⟩;have h2:inB t.Kind 1 3=true:=by
      refine cbc fun h2=>h1 (.inl ⟨rfl,fun h3=>h2 (zaq.2 h3)⟩)
     have:=zaq.1 h2;omega
 · rw [ifn h0]at h;exact absurd h h0
theorem z9d {m:zJ} {c:zH} {x:zB} (h:zmr m c x=0):InsX m c x:=by
 unfold zmr at h
 by_cases hop:inB x.Op 0 26=true
 · obtain⟨f,u,hf,hu,ag,_⟩:=zxs x hop;rw [ifp hop,hu]at h;have h':zvz m c x u=0:=h;unfold zvz at h';cases he:zm9 x u with
   | true=>rw [he]at h';cases h'
   | false=>
    rw [he]at h';simp only [cfa]at h';cases hl:zpe m x with
    | true=>rw [hl]at h';cases h'
    | false=>
     rw [hl]at h';simp only [cfa]at h'
     by_cases h1:zdr x.zF u.zF=0
     · by_cases h2:zdr x.Second u.Second=0
       · rw [ifn,ifn]at h';cases hr:zlz m c x u with
         | true=>rw [hr]at h';simp at h'
         | false=>
          unfold zlz at hr;simp only [Bool.or_eq_false_iff]at hr;obtain⟨r1,r2,r3,r4,r5,r6,r7,r8⟩:=hr;rw [List.any_eq_false]at r1;have reg:∀i,i∈zm2 x u→0≤i∧i<m.Registers:=fun i hi=>by
           have:=r1 i hi;unfold zgi at this;have h4:inB i 0 (m.Registers-1)=true:=by simpa using this
           have:=zaq.1 h4;omega
          have andF:∀{p q:Bool},(p&& !q)=false→p=true→q=true:=fun {p q} h hp=>by subst hp;simpa using h
          have hu0:∀k,x.Op=k→∀w,ze3 ⟨k,x.R,x.A,x.B,x.zM,x.Place,x.From,x.zF,x.Second,x.Half,x.zP,x.Number,x.Text,x.Other,x.Mask,x.Target,x.Pointer,x.Source⟩=some w→u=w:=by
           rintro k rfl w hw
           have:ze3 x=some w:=hw;rw [hu]at this;exact Option.some.inj this
          have place:u.Place=true→(x.Op≠4)→x.Place.Based=false→zb3 x.zF=0→0≤x.Place.Offset∧x.Place.Offset+szE x.zF≤(c.Storage.Bytes.size:Int):=fun hp h4 hb ht=>by
           have:=andF r6 hp;unfold zcn at this;rw [hb]at this;have hpl:zdp x=x.zF:=by unfold zdp;rw [ifn h4]
           rw [hpl]at this;have:=zaq.1 (by simpa using this);omega
          have pnt:u.Pointer=true→0≤x.Pointer∧x.Pointer<(c.Storage.Bytes.size:Int):=fun hp=>by
           have:=andF r4 hp;unfold zev at this;simp only [Bool.and_eq_true,decide_eq_true_eq]at this;omega
          have op4:x.Op=4→u.R=true∧u.zF=1:=fun e=>by
           cases hi:x.zP with
           | true=>have:=hu0 4 e _ (by rw [hi];rfl);subst this;exact⟨rfl,rfl⟩
           | false=>have:=hu0 4 e _ (by rw [hi];rfl);subst this;exact⟨rfl,rfl⟩
          have hR:u.R=true→0≤x.R∧x.R<m.Registers:=fun hx=>reg _ (by unfold zm2;rw [hx];simp);have hA:u.A=true→0≤x.A∧x.A<m.Registers:=fun hx=>reg _ (by unfold zm2;rw [hx];simp);have tyy:x.Op=0∨x.Op=1∨x.Op=4∨x.Op=9∨x.Op=10→zb3 x.zF=0:=by
           rintro (e|e|e|e|e)
           · have:=hu0 0 e _ rfl;subst this;exact(zt9 h1).1
           · have:=hu0 1 e _ rfl;subst this;exact(zt9 h1).1
           · rw [(op4 e).2]at h1;exact(zt9 h1).1
           · have:=hu0 9 e _ rfl;subst this;exact znh h1 (by decide)
           · have:=hu0 10 e _ rfl;subst this;exact znh h1 (by decide)
          exact {
           op:=zaq.1 hop
           r:=by
            rintro (e|e|e|e|e|e)
            · have:=hu0 0 e _ rfl;subst this;exact hR rfl
            · have:=hu0 1 e _ rfl;subst this;exact hR rfl
            · have:=hu0 2 e _ rfl;subst this;exact hR rfl
            · have:=hu0 3 e _ rfl;subst this;exact hR rfl
            · exact hR (op4 e).1
            · have:=hu0 21 e _ rfl;subst this;exact hR rfl
           a:=fun e=>by have:=hu0 3 e _ rfl;subst this;exact hA rfl
           ty:=tyy
           kd:=by
            rintro (e|e|e)
            · have:=hu0 0 e _ rfl;subst this;exact(zt9 h1).2
            · have:=hu0 1 e _ rfl;subst this;exact(zt9 h1).2
            · rw [(op4 e).2]at h1;exact(zt9 h1).2
           pl:=by
            rintro (e|e|e|e) hb
            · have ht:=tyy (by omega);have:=hu0 0 e _ rfl;subst this;exact place rfl (by omega) hb ht
            · have ht:=tyy (by omega);have:=hu0 1 e _ rfl;subst this;exact place rfl (by omega) hb ht
            · have ht:=tyy (by omega);have:=hu0 9 e _ rfl;subst this;exact place rfl (by omega) hb ht
            · have ht:=tyy (by omega);have:=hu0 10 e _ rfl;subst this;exact place rfl (by omega) hb ht
           pt:=by
            rintro (e|e|e)
            · have:=hu0 14 e _ rfl;subst this;exact pnt rfl
            · have:=hu0 15 e _ rfl;subst this;exact pnt rfl
            · have:=hu0 16 e _ rfl;subst this;exact pnt rfl
           tg:=by
            have tgt:u.Target=true→0≤x.Target∧x.Target<(c.zA.length:Int):=fun hx=>by have:=zaq.1 (andF r2 hx);omega
            rintro (e|e|e|e)
            · have:=hu0 6 e _ rfl;subst this;exact tgt rfl
            · have:=hu0 7 e _ rfl;subst this;exact tgt rfl
            · have:=hu0 8 e _ rfl;subst this;exact tgt rfl
            · have:=hu0 18 e _ rfl;subst this;exact tgt rfl}
       · rw [ifn,ifp h2]at h';exact absurd h' h2
     · rw [ifp h1]at h';exact absurd h' h1
 · rw [ifn hop]at h;cases h
structure FctV (m:zJ) (c:zH) (f:zD):Prop where
 r:0≤f.Register∧f.Register<m.Registers
 ty:zb3 f.zF=0
 kd:f.zF.Kind≠0∧f.zF.Kind≠4
 of:f.Offset= -1∨(0≤f.Offset∧f.Offset+szE f.zF≤(c.Storage.Bytes.size:Int))
theorem z8h {t:DataType} (h:zb3 t=0):0≤t.Scale∧t.Scale≤15:=by
 unfold zb3 at h
 split at h
 · split at h
   · split at h
     · omega
     · cases h
   · cases h
 · split at h
   · split at h
     · rename_i h1;split at h
       · rename_i h2;have:=zaq.1 h1;have:=zaq.1 h2;omega
       · cases h
     · cases h
   · split at h
     · split at h
       · split at h
         · rename_i h2;have:=zaq.1 h2;omega
         · cases h
       · cases h
     · split at h
       · split at h
         · split at h
           · omega
           · cases h
         · cases h
       · cases h
theorem zahc {m:zJ} {c:zH} (hm:m.Registers≤8) (hs:c.Storage.Bytes.size≤1024) {f:zD} (h:FctV m c f):Proofs.Tryz.okF f=true:=by
 rw [Proofs.Tryz.okF_iff]
 have h1:=h.r
 have h3:=h.of
 have h4:=zh3 h.ty
 have h2:=z8h h.ty
 rcases zlt h.ty with⟨q0,q1,q2⟩|⟨q0|q0,q1,q2⟩|⟨q0,q1|q1⟩|⟨q0,q1⟩<;>refine⟨?_,?_,?_,?_,?_⟩<;>omega
theorem zvt {l:List zD} (h:∀f∈l,Proofs.Tryz.okF f=true) (hl:l.length≤1000000000):zpr Proofs.Tryz.ltF Proofs.Tryz.okF l=some (ordD Proofs.Tryz.ltF l):=by
 unfold zpr
 rw [List.all_eq_true.2 h,zth hl]
 rfl
def zj5 (x:zB) (l:List zD):List zD:=
 if x.Op=0 then ordD Proofs.Tryz.ltF (zvw x l)
 else if x.Op=4 then ordD Proofs.Tryz.ltF (woL x.R l++[⟨x.R,x.zF,-1⟩])
 else if x.Op=2∨x.Op=21 then woL x.R l
 else if x.Op=3 then ordD Proofs.Tryz.ltF (woL x.R l++l.filterMap (zkt x.A x.R))
 else if x.Op=1∨x.Op=9∨x.Op=10 then ordD Proofs.Tryz.ltF (zzf x l)
 else if x.Op=14∨x.Op=15∨x.Op=16 then l.filter fun f=> !apB x.Pointer 16 f
 else l
theorem zx6 {l:List zD} {a r:Int} {f:zD}:f∈l.filterMap (zkt a r)↔∃g∈l,g.Register=a∧f=⟨r,g.zF,g.Offset⟩:=by
 rw [List.mem_filterMap]
 constructor
 · rintro ⟨g,hg,h⟩
   unfold zkt at h;split at h
   · rename_i e;cases h;exact⟨g,hg,e,rfl⟩
   · cases h
 · rintro ⟨g,hg,e,rfl⟩
   exact⟨g,hg,by unfold zkt;rw [ifp e]⟩
theorem z0q {l:List zD} {r:Int} {f:zD}:f∈woL r l↔f∈l∧f.Register≠r:=by
 unfold woL
 rw [List.mem_filter]
 simp
theorem zac6 {x:zB} {l:List zD} {f:zD}:f∈zvw x l↔(f∈l∧f.Register≠x.R)∨f=⟨x.R,x.zF,-1⟩∨(x.Place.Based=false∧(f=⟨x.R,x.zF,x.Place.Offset⟩∨∃h∈l,h.zF=x.zF∧h.Offset=x.Place.Offset∧∃g∈l,g.Register=h.Register∧f=⟨x.R,g.zF,g.Offset⟩)):=by
 unfold zvw
 rw [List.mem_append,List.mem_append,z0q,List.mem_singleton,or_assoc]
 cases hb:x.Place.Based with
 | true=>simp
 | false=>
  simp only [Bool.false_eq_true,if_false,List.mem_append,List.mem_singleton,List.mem_flatMap,true_and];have:(∃a,a∈l∧f∈zpd x l a)↔∃h∈l,h.zF=x.zF∧h.Offset=x.Place.Offset∧∃g∈l,g.Register=h.Register∧f=⟨x.R,g.zF,g.Offset⟩:=by
   constructor
   · rintro ⟨h,hh,hf⟩
     unfold zpd at hf;split at hf
     · rename_i e;rw [Bool.and_eq_true,z34,beq_iff_eq]at e;exact⟨h,hh,e.1,e.2,zx6.1 hf⟩
     · simp at hf
   · rintro ⟨h,hh,e1,e2,hf⟩
     refine⟨h,hh,?_⟩;unfold zpd;rw [ifp (by rw [Bool.and_eq_true,z34,beq_iff_eq];exact⟨e1,e2⟩)];exact zx6.2 hf
  rw [this]
theorem zad9 {x:zB} {l:List zD} {f:zD}:f∈zzf x l↔(x.Place.Based=true∧f∈l∧f.Offset= -1)∨(x.Place.Based=false∧((f∈l∧apB x.Place.Offset (szE x.zF) f=false)∨(x.Op=1∧(⟨x.R,x.zF,-1⟩:zD)∈l∧f=⟨x.R,x.zF,x.Place.Offset⟩))):=by
 unfold zzf
 cases hb:x.Place.Based with
 | true=>simp [List.mem_filter]
 | false=>
  simp only [Bool.false_eq_true,if_false,List.mem_append,List.mem_filter,false_and,false_or,true_and,Bool.not_eq_true'];have:(f∈(if x.Op==1&&znz l ⟨x.R,x.zF,-1⟩then [(⟨x.R,x.zF,x.Place.Offset⟩:zD)]else []))↔(x.Op=1∧(⟨x.R,x.zF,-1⟩:zD)∈l∧f=⟨x.R,x.zF,x.Place.Offset⟩):=by
   split
   · rename_i e;rw [Bool.and_eq_true,beq_iff_eq,zm8]at e;simp [e.1,e.2]
   · rename_i e;rw [Bool.and_eq_true,beq_iff_eq,zm8]at e;simp only [List.not_mem_nil,false_iff]
     rintro ⟨a,b,_⟩
     exact e ⟨a,b⟩
  rw [this]
def Beh (x:zB) (l:List zD) (f:zD):Prop:=
 if x.Op=0 then(f∈l∧f.Register≠x.R)∨f=⟨x.R,x.zF,-1⟩∨(x.Place.Based=false∧(f=⟨x.R,x.zF,x.Place.Offset⟩∨∃h∈l,h.zF=x.zF∧h.Offset=x.Place.Offset∧∃g∈l,g.Register=h.Register∧f=⟨x.R,g.zF,g.Offset⟩))
 else if x.Op=4 then(f∈l∧f.Register≠x.R)∨f=⟨x.R,x.zF,-1⟩
 else if x.Op=2∨x.Op=21 then f∈l∧f.Register≠x.R
 else if x.Op=3 then(f∈l∧f.Register≠x.R)∨∃g∈l,g.Register=x.A∧f=⟨x.R,g.zF,g.Offset⟩
 else if x.Op=1∨x.Op=9∨x.Op=10 then(x.Place.Based=true∧f∈l∧f.Offset= -1)∨(x.Place.Based=false∧((f∈l∧apB x.Place.Offset (szE x.zF) f=false)∨(x.Op=1∧(⟨x.R,x.zF,-1⟩:zD)∈l∧f=⟨x.R,x.zF,x.Place.Offset⟩)))
 else if x.Op=14∨x.Op=15∨x.Op=16 then f∈l∧apB x.Pointer 16 f=false
 else f∈l
theorem zov {l:List zD} {f:zD}:f∈ordD Proofs.Tryz.ltF l↔f∈l:=Proofs.Tryz.mem_ordD _ Proofs.Tryz.ltF_eq f l
theorem zyo {x:zB} {l:List zD} {f:zD}:f∈zj5 x l↔Beh x l f:=by
 unfold zj5 Beh
 split
 · rw [zov,zac6]
 · split
   · rw [zov,List.mem_append,z0q,List.mem_singleton]
   · split
     · rw [z0q]
     · split
       · rw [zov,List.mem_append,z0q,zx6]
       · split
         · rw [zov,zad9]
         · split
           · simp [List.mem_filter]
           · rfl
def zpo (l:List zD):Prop:=l.Pairwise fun a b=>Proofs.Tryz.ltF a b=true
theorem zrl (l:List zD):zpo (ordD Proofs.Tryz.ltF l):=Proofs.Tryz.sorted_ordD _ Proofs.Tryz.ltF_swo.2.1 Proofs.Tryz.ltF_eq l
theorem z9r {x:zB} {l:List zD} (h:zpo l):zpo (zj5 x l):=by
 unfold zj5
 split
 · exact zrl _
 · split
   · exact zrl _
   · split
     · exact List.Pairwise.filter _ h
     · split
       · exact zrl _
       · split
         · exact zrl _
         · split
           · exact List.Pairwise.filter _ h
           · exact h
variable {m:zJ} {c:zH}
theorem zabz {x:zB} (hx:InsX m c x) {l:List zD} (hl:∀f∈l,FctV m c f) {f:zD} (h:Beh x l f):FctV m c f:=by
 have about:∀g∈l,(0≤x.R∧x.R<m.Registers)→FctV m c ⟨x.R,g.zF,g.Offset⟩:=fun g hg hr=>⟨hr,(hl g hg).ty,(hl g hg).kd,(hl g hg).of⟩
 unfold Beh at h
 split at h
 · rename_i e;rcases h with⟨h,_⟩|rfl|⟨hb,rfl|⟨_,_,_,_,g,hg,_,rfl⟩⟩
   · exact hl _ h
   · exact⟨hx.r (.inl e),hx.ty (.inl e),hx.kd (.inl e),.inl rfl⟩
   · exact⟨hx.r (.inl e),hx.ty (.inl e),hx.kd (.inl e),.inr (hx.pl (.inl e) hb)⟩
   · exact about g hg (hx.r (.inl e))
 · split at h
   · rename_i e;rcases h with⟨h,_⟩|rfl
     · exact hl _ h
     · exact⟨hx.r (by omega),hx.ty (by omega),hx.kd (by omega),.inl rfl⟩
   · split at h
     · exact hl _ h.1
     · split at h
       · rename_i e;rcases h with⟨h,_⟩|⟨g,hg,_,rfl⟩
         · exact hl _ h
         · exact about g hg (hx.r (by omega))
       · split at h
         · rename_i e;rcases h with⟨_,h,_⟩|⟨hb,⟨h,_⟩|⟨e1,_,rfl⟩⟩
           · exact hl _ h
           · exact hl _ h
           · exact⟨hx.r (by omega),hx.ty (by omega),hx.kd (by omega),.inr (hx.pl (by omega) hb)⟩
         · split at h
           · exact hl _ h.1
           · exact hl _ h
theorem z95 (N:Nat) (hN:10<N) (hm:m.Registers≤8) (hs:c.Storage.Bytes.size≤1024) {x:zB} (hx:InsX m c x) {l:List zD} (hf:∀f∈l,FctV m c f) (h:l.length<N) (hl:l.length≤5000):
 zh2 N x l=some (zj5 x l):=by
 have ok:∀f∈zj5 x l,Proofs.Tryz.okF f=true:=fun f hf'=>zahc hm hs (zabz hx hf (zyo.1 hf'))
 have ht:∀f∈l,zb3 f.zF=0:=fun f h=>(hf f h).ty
 unfold zh2
 simp only [zbc]
 by_cases e0:x.Op=0
 · have o2:zj5 x l=ordD Proofs.Tryz.ltF (zvw x l):=by unfold zj5;rw [ifp e0]
   rw [dct e0,ctr,z91 N x l h hl,obs,zvt (fun f hf'=>ok f (by rw [o2,zov];exact hf')) ?_,o2]
   · rfl
   · unfold zvw woL;have h1:(l.filter fun f=> !(f.Register==x.R)).length≤l.length:=List.length_filter_le _ _;have h2:(l.flatMap (zpd x l)).length≤5000*5000:=by
      have:∀k:List zD,k.length≤5000→(k.flatMap (zpd x l)).length≤k.length*5000:=by
       intro k
       induction k with
       | nil=>intro _;simp
       | cons g k ih=>
        intro hk;have hk':k.length+1≤5000:=by simpa using hk
        have:=ih (by omega);have h3:(zpd x l g).length≤5000:=by
         unfold zpd;split
         · exact Nat.le_trans (List.length_filterMap_le _ _) hl
         · simp
        rw [List.flatMap_cons,lna,lnc,Nat.succ_mul];omega
      exact Nat.le_trans (this l hl) (Nat.mul_le_mul_right 5000 hl)
     simp only [lna,lnc,ln0];split
     · simp;omega
     · simp only [lna,lnc,ln0];omega
 · rw [dcf e0,cfa]
   by_cases e4:x.Op=4
   · have o2:zj5 x l=ordD Proofs.Tryz.ltF (woL x.R l++[⟨x.R,x.zF,-1⟩]):=by unfold zj5;rw [ifn e0,ifp e4]
     have h1:(woL x.R l).length≤l.length:=List.length_filter_le _ _;rw [dct e4,ctr,zri N l x.R h (by omega),obs];change cond (Nat.ble (((woL x.R l).length+1)*40) zr) ((zpr Proofs.Tryz.ltF Proofs.Tryz.okF (woL x.R l++[⟨x.R,x.zF,-1⟩])).bind fun r4=>some r4) none=_;rw [zth (by omega),ctr,zvt (fun f hf'=>ok f (by rw [o2,zov];exact hf')) (by simp;omega),o2];rfl
   · rw [dcf e4,cfa]
     by_cases e2:x.Op=2∨x.Op=21
     · have o2:zj5 x l=woL x.R l:=by unfold zj5;rw [ifn e0,ifn e4,ifp e2]
       rw [show cond (decide (x.Op=2)) (some (decide (x.Op=2))) (some (decide (x.Op=21)))=some true by rcases e2 with e|e<;>simp [e],obs,ctr,zri N l x.R h (by omega),o2];rfl
     · rw [show cond (decide (x.Op=2)) (some (decide (x.Op=2))) (some (decide (x.Op=21)))=some false by rw [not_or]at e2;simp [e2.1,e2.2],obs,cfa]
       by_cases e3:x.Op=3
       · have o2:zj5 x l=ordD Proofs.Tryz.ltF (woL x.R l++l.filterMap (zkt x.A x.R)):=by unfold zj5;rw [ifn e0,ifn e4,ifn e2,ifp e3]
         have h1:(woL x.R l).length≤l.length:=List.length_filter_le _ _;have h2:(l.filterMap (zkt x.A x.R)).length≤l.length:=List.length_filterMap_le _ _;rw [dct e3,ctr,zri N l x.R h (by omega),obs,z36 N l x.A x.R h (by omega),obs];change cond (Nat.ble (((woL x.R l).length+(l.filterMap (zkt x.A x.R)).length)*40) zr) ((zpr Proofs.Tryz.ltF Proofs.Tryz.okF (woL x.R l++l.filterMap (zkt x.A x.R))).bind fun r9=>some r9) none=_;rw [zth (by omega),ctr,zvt (fun f hf'=>ok f (by rw [o2,zov];exact hf')) (by rw [lna];omega),o2];rfl
       · rw [dcf e3,cfa]
         by_cases e1:x.Op=1∨x.Op=9∨x.Op=10
         · have o2:zj5 x l=ordD Proofs.Tryz.ltF (zzf x l):=by unfold zj5;rw [ifn e0,ifn e4,ifn e2,ifn e3,ifp e1]
           rw [show cond (decide (x.Op=1)) (some (decide (x.Op=1))) (cond (decide (x.Op=9)) (some (decide (x.Op=9))) (some (decide (x.Op=10))))=some true by rcases e1 with e|e|e<;>simp [e],obs,ctr,
            z8i N hN x l (hx.ty (by omega)) ht h hl,obs,zvt (fun f hf'=>ok f (by rw [o2,zov];exact hf')) ?_,o2]
           · rfl
           · unfold zzf;split
             · exact Nat.le_trans (List.length_filter_le _ _) (by omega)
             · rw [lna];have h1:(l.filter fun f=> !apB x.Place.Offset (szE x.zF) f).length≤l.length:=List.length_filter_le _ _;split<;>simp<;>omega
         · rw [show cond (decide (x.Op=1)) (some (decide (x.Op=1))) (cond (decide (x.Op=9)) (some (decide (x.Op=9))) (some (decide (x.Op=10))))=some false by rw [not_or,not_or]at e1;simp [e1.1,e1.2.1,e1.2.2],obs,cfa]
           by_cases e5:x.Op=14∨x.Op=15∨x.Op=16
           · have o2:zj5 x l=l.filter fun f=> !apB x.Pointer 16 f:=by unfold zj5;rw [ifn e0,ifn e4,ifn e2,ifn e3,ifn e1,ifp e5]
             rw [show cond (decide (x.Op=14)) (some (decide (x.Op=14))) (cond (decide (x.Op=15)) (some (decide (x.Op=15))) (some (decide (x.Op=16))))=some true by rcases e5 with e|e|e<;>simp [e],obs,ctr,
              z35 N hN l _ _ ht h (by omega),o2]
             rfl
           · have o2:zj5 x l=l:=by unfold zj5;rw [ifn e0,ifn e4,ifn e2,ifn e3,ifn e1,ifn e5]
             rw [show cond (decide (x.Op=14)) (some (decide (x.Op=14))) (cond (decide (x.Op=15)) (some (decide (x.Op=15))) (some (decide (x.Op=16))))=some false by rw [not_or,not_or]at e5;simp [e5.1,e5.2.1,e5.2.2],obs,cfa,o2]
variable {m:zJ} {c:zH}
theorem zvv {n:Nat} (f:Nat→Bool) {k:Nat} (v:Bool):((List.range n).map f).set k v=(List.range n).map fun i=>if i=k then v else f i:=by
 apply List.ext_getElem?
 intro i
 rw [List.getElem?_set,List.getElem?_map,List.getElem?_map,lnm,List.length_range]
 by_cases hi:i<n
 · rw [List.getElem?_range hi]
   by_cases e:k=i
   · subst e;simp [hi]
   · simp [e,Ne.symm e]
 · rw [List.getElem?_eq_none (by simpa using hi)]
   by_cases e:k=i
   · subst e;simp [hi]
   · simp [e]
theorem zjp {n:Nat} (f:Nat→Bool) {k:Nat} (h:k<n):((List.range n).map f)[k]?=some (f k):=by
 rw [List.getElem?_map,List.getElem?_range h]
 rfl
theorem zzz (n:Nat):List.replicate n false=(List.range n).map fun _=>false:=by
 apply List.ext_getElem
 · simp
 · intro i h1 h2;simp
def z5u (c:zH) (k:Nat):Bool:=decide (k=0)||c.zS.any fun t=>decide (t.Handler=(k:Int))
def entC (c:zH) (k:Nat):Bool:=match k with|0=>false|j+1=>(c.zA[j]?).any fun x=>decide (x.Op=18)
theorem zxy (c:zH) (j:Nat):entC c (j+1)=(c.zA[j]?).any fun x=>decide (x.Op=18):=rfl
def zk4 (c:zH) (k:Nat):Bool:=z5u c k||entC c k
def ziz (c:zH):List Bool:=(List.range c.zA.length).map (zk4 c)
structure CdV (m:zJ) (c:zH):Prop where
 m1:2≤m.Registers
 m2:m.Registers≤8
 sz:c.Storage.Bytes.size≤1024
 len:c.zA.length≤240
 pos:0<c.zA.length
 traps:c.zS.length≤1048576
 ins:∀x∈c.zA,InsX m c x
 trap:∀t∈c.zS,0≤t.Handler∧t.Handler<(c.zA.length:Int)
variable {m:zJ} {c:zH}
theorem zaeb (N:Nat) (hN:1048600<N) (hc:CdV m c):zh (zaf.r0 N) N (((List.range c.zA.length).map fun k=>decide (k=0)),c.zS,(c.zS.length:Int),0,c)=some ((List.range c.zA.length).map (z5u c),c.zS,(c.zS.length:Int),(c.zS.length:Int),c):=by
 have ht:=hc.traps
 have:=zco (f:=zaf.r0 N) (fun i=>((List.range c.zA.length).map (fun k:Nat=>decide (k=0)||(c.zS.take i).any fun t=>decide (t.Handler=(k:Int))),c.zS,(c.zS.length:Int),(i:Int),c)) c.zS.length (fun i hi=>by
  have hx:=lge hi;obtain⟨h0,h1⟩:=hc.trap _ (lmg hx);generalize c.zS[i]=x at hx h0 h1;simp only [zaf.r0,zaf.b0,zau,hx,obs,dct (show(i:Int)<(c.zS.length:Int)by omega),ctr,ifp h0];rw [ifp (by simpa using h1),zjp _ (by omega),w6e,obs,zvv,List.take_add_one,hx]
  congr 3
  apply List.map_congr_left;intro k _;simp only [List.any_append,Option.toList_some,List.any_cons,List.any_nil,Bool.or_false]
  by_cases e:k=x.Handler.toNat
  · subst e;have:x.Handler=((x.Handler.toNat:Nat):Int):=by omega
    simp [←this]
  · have:¬x.Handler=(k:Int):=by omega
    simp [e,this])
  (by simp only [zaf.r0,zaf.b0,dcf (show ¬(c.zS.length:Int)<(c.zS.length:Int)by omega),cfa]) (show c.zS.length<N by omega)
 rw [show z5u c=(fun k:Nat=>decide (k=0)||c.zS.any fun t=>decide (t.Handler=(k:Int)))from rfl]
 simpa using this
def zmu (c:zH):List Int:=(List.range c.zA.length).filterMap fun i=>(c.zA[i]?).bind fun x=>if x.Op=18∧i+1<c.zA.length then some ((i:Int)+1)else none
theorem zacd (N:Nat) (hN:1000<N) (hc:CdV m c):zax N c=some (zmu c):=by
 unfold zax
 have hl:=hc.len
 have:=coll (f:=zax.r0 N) (List.range c.zA.length) (fun i=>(c.zA[i]?).bind fun x=>if x.Op=18∧i+1<c.zA.length then some ((i:Int)+1)else none) (fun i acc=>(acc,c.zA,(c.zA.length:Int),(i:Int),c)) (fun i j acc hj hacc=>by
  obtain⟨hi,rfl⟩:=gei hj;have hi:i<c.zA.length:=by simpa using hi
  have hx:=lge hi;simp only [List.getElem_range];generalize c.zA[i]=x at hx;simp only [zax.r0,zax.b0,zau,hx,obs,dct (show(i:Int)<(c.zA.length:Int)by omega),ctr,zbc,lnc,ln0,zx3 (show acc.length+(0+1)≤1000000 by omega)];rw [w6e,zne,obs]
  by_cases e1:x.Op=18<;>by_cases e2:i+1<c.zA.length
  · simp [e1,e2,show((i:Int)+1<(c.zA.length:Int))by omega]
  · simp [e1,e2,show ¬((i:Int)+1<(c.zA.length:Int))by omega]
  · simp [e1]
  · simp [e1])
  (fun acc=>by simp only [zax.r0,zax.b0,List.length_range,dcf (show ¬(c.zA.length:Int)<(c.zA.length:Int)by omega),cfa]) (show(List.range c.zA.length).length<N by simp;omega)
 simp only [nc0]at this
 rw [this]
 rfl
theorem z0m {z:Int}:z∈zmu c↔∃k:Nat,z=(k:Int)∧k<c.zA.length∧entC c k=true:=by
 unfold zmu
 rw [List.mem_filterMap]
 constructor
 · rintro ⟨i,hi,h⟩
   have hi:i<c.zA.length:=by simpa using hi
   rw [lge hi,obs]at h;split at h
   · rename_i e;cases h;refine⟨i+1,rfl,e.2,?_⟩;rw [zxy,lge hi];simp [e.1]
   · cases h
 · rintro ⟨k,rfl,hk,h⟩
   cases k with
   | zero=>cases h
   | succ j=>
    have hj:j<c.zA.length:=by omega
    refine⟨j,by simpa using hj,?_⟩;rw [zxy,lge hj]at h;rw [lge hj];have h18:c.zA[j].Op=18:=by simpa using h
    rw [obs,ifp ⟨h18,hk⟩];rfl
theorem z8j (N:Nat) (hN:1048600<N) (hc:CdV m c):zaf N c=some (ziz c):=by
 unfold zaf
 have hl:=hc.len
 have hp:=hc.pos
 rw [ifp,ifp,itn,ble1 (by omega),ctr,ifp,ifp (by simp;omega),Int.toNat_zero,zzz,zjp _ hp,obs,zvv]
 have e:((List.range c.zA.length).map fun i=>if i=0 then true else false)=(List.range c.zA.length).map fun k=>decide (k=0):=by
  apply List.map_congr_left;intro k _
  by_cases h:k=0<;>simp [h]
 rw [e,zaeb N hN hc]
 simp only [obs]
 rw [zacd N (by omega) hc]
 simp only [obs]
 have hcl:(zmu c).length≤c.zA.length:=by
  unfold zmu;exact Nat.le_trans (List.length_filterMap_le _ _) (by simp)
 have:=zco (f:=zaf.r2 N) (fun i=>((List.range c.zA.length).map (fun k:Nat=>z5u c k||((zmu c).take i).any fun t=>decide (t=(k:Int))),zmu c,((zmu c).length:Int),(i:Int))) (zmu c).length (fun i hi=>by
  have hx:=lge hi;obtain⟨k0,hk0,hk1,_⟩:=z0m.1 (lmg hx);generalize (zmu c)[i]=x at hx hk0;subst hk0;simp only [zaf.r2,zaf.b2,zau,hx,obs,dct (show(i:Int)<((zmu c).length:Int)by omega),ctr,ifp (show 0≤(k0:Int)by omega)];rw [ifp (by simp;omega),itn,zjp _ hk1,w6e,obs,zvv,List.take_add_one,hx]
  congr 3
  apply List.map_congr_left;intro k _;simp only [List.any_append,Option.toList_some,List.any_cons,List.any_nil,Bool.or_false]
  by_cases e:k=k0
  · subst e;simp
  · have:¬((k0:Int)=(k:Int)):=by omega
    simp [e,this])
  (by simp only [zaf.r2,zaf.b2,dcf (show ¬((zmu c).length:Int)<((zmu c).length:Int)by omega),cfa]) (show(zmu c).length<N by omega)
 simp only [nc0,List.take_zero,List.any_nil,Bool.or_false,List.take_length]at this
 rw [this]
 simp only [obs]
 congr 1
 apply List.map_congr_left
 intro k hk
 have hk:k<c.zA.length:=by simpa using hk
 unfold zk4
 congr 1
 rw [Bool.eq_iff_iff,List.any_eq_true]
 constructor
 · rintro ⟨z,hz,h⟩
   have h:=of_decide_eq_true h;subst h;obtain⟨k',e,_,h⟩:=z0m.1 hz;obtain rfl:k=k':=by omega
   exact h
 · intro h;exact⟨(k:Int),z0m.2 ⟨k,rfl,hk,h⟩,by simp⟩
def zph (o:Int):Bool:=decide (o≠8)&&(decide (o≠18)&&(decide (o≠19)&&(decide (o≠20)&&decide (o≠26))))
def zld (o:Int):Bool:=decide (o=6)||(decide (o=7)||(decide (o=8)||decide (o=18)))
def zdt (c:zH) (i:Nat):List Int:=match c.zA[i]? with
 | none=>[]
 | some x=>(if i+1<c.zA.length∧zph x.Op=true then [(i:Int)+1]else [])++(if zld x.Op=true then [x.Target]else [])
theorem zacb (o:Int):zds o=some (zld o):=by
 unfold zds zld
 simp only [zbc,orB,obs,Bool.or_assoc]
theorem z7h (hl:c.zA.length≤1000000) {i:Nat} (hi:i<c.zA.length):zea c (i:Int)=some (zdt c i):=by
 unfold zea zdt
 have hx:=lge hi
 rw [zau,hx,obs]
 simp only
 generalize c.zA[i]=x
 have q:(cond (x.Op==8) (some (x.Op==8)) (cond (x.Op==18) (some (x.Op==18)) (cond (x.Op==19) (some (x.Op==19)) (cond (x.Op==20) (some (x.Op==20)) (some (x.Op==26))))))=some (!zph x.Op):=by
  unfold zph;simp only [zbc]
  by_cases h1:x.Op=8
  · simp [h1]
  · by_cases h2:x.Op=18
    · simp [h2]
    · by_cases h3:x.Op=19
      · simp [h3]
      · by_cases h4:x.Op=20
        · simp [h4]
        · by_cases h5:x.Op=26<;>simp [h1,h2,h3,h4,h5]
 rw [q,obs,zacb,w6e]
 simp only [obs,lnc,ln0,zx3 (show 0+1≤1000000 by omega),zx3 (show 0+1+(0+1)≤1000000 by omega),ctr]
 cases hg:zph x.Op with
 | false=>simp;cases zld x.Op<;>simp
 | true=>
  by_cases h:i+1<c.zA.length
  · rw [dct (show(i:Int)+1<(c.zA.length:Int)by omega)];simp [h];cases zld x.Op<;>simp
  · rw [dcf (show ¬(i:Int)+1<(c.zA.length:Int)by omega)];simp [h];cases zld x.Op<;>simp
theorem zx9 (hc:CdV m c) {i:Nat} {z:Int} (h:z∈zdt c i):∃k:Nat,z=(k:Int)∧k<c.zA.length:=by
 unfold zdt at h
 cases hx:c.zA[i]? with
 | none=>rw [hx]at h;simp at h
 | some x=>
  rw [hx]at h;simp only [List.mem_append]at h;rcases h with h|h
  · split at h
    · rename_i e;have:z=(i:Int)+1:=by simpa using h
      exact⟨i+1,by omega,e.1⟩
    · simp at h
  · split at h
    · rename_i e;have hz:z=x.Target:=by simpa using h
      unfold zld at e;simp only [Bool.or_eq_true,decide_eq_true_eq]at e;have:=(hc.ins x (lmg hx)).tg (by omega);exact⟨x.Target.toNat,by omega,by omega⟩
    · simp at h
variable {m:zJ} {c:zH}
theorem zagl {m:zJ} {c:zH} {n:Int} (h:zo5 m c=(n,0)):(∀x∈c.zA,zmr m c x=0)∧(∀t∈c.zS,zo2 c t=true)∧n=(c.zA.length:Int):=by
 have h1:=zaep h
 refine⟨h1,?_⟩
 unfold zo5 at h
 cases hf:(List.range c.zA.length).findSome? (gI m c)with
 | some r=>
  exfalso
  obtain⟨j,_,hj⟩:=eof hf;unfold gI at hj;rw [Option.bind_eq_some_iff]at hj;obtain⟨y,hy1,hy⟩:=hj;rw [ifp (h1 y (lmg hy1))]at hy;cases hy
 | none=>
  rw [hf]at h;cases hg:(List.range c.zS.length).findSome? (gT c)with
  | some r=>
   exfalso
   rw [hg]at h;obtain⟨j,_,hj⟩:=eof hg;unfold gT at hj;rw [Option.bind_eq_some_iff]at hj;obtain⟨y,hy1,hy⟩:=hj;split at hy
   · cases hy
   · cases hy;have h3:(3:Int)=0:=congrArg Prod.snd h;exact absurd h3 (by decide)
  | none=>
   rw [hg]at h;refine⟨fun t ht=> ?_,(congrArg Prod.fst h).symm⟩;rw [List.findSome?_eq_none_iff]at hg;obtain⟨i,hi⟩:=List.getElem?_of_mem ht;have:=hg i (by simp;exact(gei hi).1);unfold gT at this;rw [hi,obs]at this;split at this
   · assumption
   · cases this
theorem zahx (N:Nat) (hN:1048600<N) {m:zJ} {c:zH} (hc:Wft En 1048576 Ty.zH c) {n:Int} (h:zac N m c=some (n,0)):CdV m c∧n=(c.zA.length:Int):=by
 obtain⟨e,_,he2,he3⟩:=zvu m
 obtain⟨i1,e1,e2,_,hs2,hs⟩:=zzi N (by omega) c.Storage
 obtain⟨w1,w2,w3,w4,w5⟩:=zqa hc
 unfold zac at h
 try simp only [eS,eM,eC]at h
 rw [he2,hs2]at h
 simp only [obs]at h
 by_cases h0:e=0
 · subst h0;have hm:=he3 rfl;simp only [bsf,cfa]at h
   by_cases h2:e2=0
   · rcases hs with⟨rfl,hs⟩|⟨ok,htl,_,_⟩
     · exact absurd h2 hs
     · subst h2;obtain⟨l,hl1,hl2⟩:=z18 N c.Storage htl (by omega);rw [hl1]at h;simp only [bsf,cfa,obs,orB]at h;cases hd:decide ((l.length:Int)>0)with
       | true=>rw [hd]at h;cases h
       | false=>
        rw [hd]at h hl2;simp only [cfa]at h
        by_cases hz:(c.zA.length:Int)=0
        · rw [hz]at h;cases h
        · rw [zbc,dcf hz]at h;simp only [cfa]at h;cases hb:(decide ((c.zA.length:Int)>240)||decide ((c.zS.length:Int)>40))with
          | true=>rw [hb]at h;cases h
          | false=>
           rw [hb]at h;simp only [cfa]at h;have:=zzx N hN hm ok hc;rw [this]at h;simp only [Bool.or_eq_false_iff,decide_eq_false_iff_not]at hb;obtain⟨r1,r2,r3⟩:=zagl (Option.some.inj h);have hand:∀t∈c.zS,0≤t.Handler∧t.Handler<(c.zA.length:Int):=fun t ht=>by
            have h5:=r2 t ht;unfold zo2 at h5;simp only [Bool.and_eq_true]at h5;have h6:=zaq.1 h5.2.2.2;omega
           exact⟨⟨hm.1,hm.2,ok.le,by omega,by omega,by omega,fun x hx=>z9d (r1 x hx),hand⟩,r3⟩
   · rw [zdq,dct h2]at h;simp only [ctr,Option.some.injEq,Prod.mk.injEq]at h;exact absurd h.2 h2
 · rw [zdq,dct h0]at h;simp only [ctr,Option.some.injEq,Prod.mk.injEq]at h;exact absurd h.2 h0
variable {m:zJ} {c:zH}
def z3y (c:zH) (F:List (List zD)) (i:Nat):List zD:=match c.zA[i]?,F[i]? with|some x,some l=>zj5 x l|_,_=>[]
def zlh (F:List (List zD)) (k:Nat):List zD:=(F[k]?).getD []
def z9a (c:zH) (F:List (List zD)) (i k:Nat):Bool:=(zlh F k).any fun f=> !znz (z3y c F i) f
def badE (c:zH) (F:List (List zD)) (i k:Nat):Bool:=(zdt c i).contains (k:Int)&&z9a c F i k
def ownB (c:zH) (F:List (List zD)) (k:Nat):Bool:=zk4 c k&&decide (0<(zlh F k).length)
def z6h (c:zH) (F:List (List zD)) (k:Nat):Bool:=ownB c F k||(List.range c.zA.length).any fun i=>badE c F i k
structure FsV (m:zJ) (c:zH) (F:List (List zD)):Prop where
 len:F.length=c.zA.length
 v:∀l∈F,l.length≤60∧∀f∈l,FctV m c f
theorem z4a {i:Nat}:(zdt c i).length≤2:=by
 unfold zdt
 cases c.zA[i]? with
 | none=>simp
 | some x=>
  simp only [lna];split<;>split<;>simp
variable {F:List (List zD)}
variable {m:zJ} {c:zH} {F:List (List zD)}
theorem zaf6:zn3 2000000=some true:=by kernel_rfl
variable {m:zJ} {c:zH}
theorem z1l {α:Type} {f:α→Option (Stp α)} (I J:α→Prop) (μ:α→Nat) (h:∀s,I s→(∃s',f s=some (.again s')∧I s'∧μ s'<μ s)∨(∃s',f s=some (.leave s')∧J s')):
 ∀(N:Nat) (s:α),I s→μ s<N→∃s',zh f N s=some s'∧J s'
 | 0,s,_,hN=>by omega
 | N+1,s,hI,hN=>by
  rcases h s hI with⟨s',h1,h2,h3⟩|⟨s',h1,h2⟩
  · obtain⟨s2,h4,h5⟩:=z1l I J μ h N s' h2 (by omega);exact⟨s2,by rw [zh,h1];exact h4,h5⟩
  · exact⟨s',by rw [zh,h1];rfl,h2⟩
def cnt (p:Nat→Bool):Nat→Nat
 | 0=>0
 | n+1=>cnt p n+cond (p n) 0 1
def upd (p:Nat→Bool) (x:Nat) (k:Nat):Bool:=if k=x then true else p k
theorem z6e (p:Nat→Bool):∀n,cnt p n≤n
 | 0=>Nat.le_refl _
 | n+1=>by have:=z6e p n;simp only [cnt];cases p n<;>simp<;>omega
theorem z2n (p:Nat→Bool) (x:Nat):∀n,cnt (upd p x) n+cond (decide (x<n)&& !p x) 1 0=cnt p n
 | 0=>by simp [cnt]
 | n+1=>by
  have ih:=z2n p x n;simp only [cnt]
  by_cases e:n=x
  · subst e;rw [dcf (Nat.lt_irrefl n)]at ih;simp only [Bool.false_and,cfa,Nat.add_zero]at ih;rw [dct (Nat.lt_succ_self n),ih];have:upd p n n=true:=by simp [upd]
    rw [this];cases p n<;>simp
  · have h1:upd p x n=p n:=by simp [upd,e]
    have h2:decide (x<n+1)=decide (x<n):=by
     by_cases h:x<n
     · rw [dct h,dct (by omega)]
     · rw [dcf h,dcf (by omega)]
    rw [h1,h2];omega
theorem z11 {n:Nat} (p:Nat→Bool) (x:Nat):((List.range n).map p).set x true=(List.range n).map (upd p x):=zvv p true
inductive Rch (c:zH):Nat→Prop
 | ent {k:Nat} (h:k<c.zA.length) (he:zk4 c k=true):Rch c k
 | step {i k:Nat} (h:Rch c i) (hs:(k:Int)∈zdt c i):Rch c k
theorem Rch.lt (hc:CdV m c) {k:Nat} (h:Rch c k):k<c.zA.length:=by
 cases h with
 | ent h _=>exact h
 | step _ hs=>
  obtain⟨k',e,hk⟩:=zx9 hc hs;omega
theorem z2g {n:Nat} {p q:Nat→Bool} (h:∀k,k<n→p k=q k):(List.range n).map p=(List.range n).map q:=List.map_congr_left fun k hk=>h k (by simpa using hk)
theorem zagq (hc:CdV m c) {p:Nat→Bool} (h1:∀k,k<c.zA.length→p k=true→Rch c k) (h2:∀k,k<c.zA.length→zk4 c k=true→p k=true)
 (h3:∀i,i<c.zA.length→p i=true→∀k:Nat,(k:Int)∈zdt c i→p k=true):∀k,Rch c k→p k=true:=by
 intro k h
 induction h with
 | ent h he=>exact h2 _ h he
 | step h hs ih=>exact h3 _ (h.lt hc) ih _ hs
def z0g (c:zH):List Int:=(List.range c.zA.length).filterMap fun i=>if zk4 c i=true then some (i:Int)else none
theorem z90 (N:Nat) (hN:1000<N) (hc:CdV m c) (s:List Bool):zh (zae.r0 N) N (s,[],ziz c,(c.zA.length:Int),0,c)=some (s,z0g c,ziz c,(c.zA.length:Int),(c.zA.length:Int),c):=by
 have hl:=hc.len
 have:=coll (f:=zae.r0 N) (List.range c.zA.length) (fun i=>if zk4 c i=true then some (i:Int)else none) (fun i acc=>(s,acc,ziz c,(c.zA.length:Int),(i:Int),c)) (fun i j acc hj hacc=>by
  obtain⟨hi,rfl⟩:=gei hj;have hi:i<c.zA.length:=by simpa using hi
  have hent:(ziz c)[i]?=some (zk4 c i):=zjp _ hi;simp only [List.getElem_range];simp only [zae.r0,zae.b0,zau,hent,obs,dct (show(i:Int)<(c.zA.length:Int)by omega),ctr,lnc,ln0,zx3 (show acc.length+(0+1)≤1000000 by omega)];rw [w6e];cases zk4 c i<;>simp)
  (fun acc=>by simp only [zae.r0,zae.b0,List.length_range,dcf (show ¬(c.zA.length:Int)<(c.zA.length:Int)by omega),cfa]) (show(List.range c.zA.length).length<N by simp;omega)
 simp only [nc0,List.length_range]at this
 exact this
theorem z5v {z:Int}:z∈z0g c↔∃k:Nat,z=(k:Int)∧k<c.zA.length∧zk4 c k=true:=by
 unfold z0g
 rw [List.mem_filterMap]
 constructor
 · rintro ⟨i,hi,h⟩
   split at h
   · rename_i e;cases h;exact⟨i,rfl,by simpa using hi,e⟩
   · cases h
 · rintro ⟨k,rfl,hk,he⟩
   exact⟨k,by simpa using hk,by rw [ifp he]⟩
structure QR (c:zH) (p:Nat→Bool) (l:List Int):Prop where
 r:∀k,k<c.zA.length→p k=true→Rch c k
 w:∀z∈l,∃k:Nat,z=(k:Int)∧Rch c k
 e:∀k,k<c.zA.length→zk4 c k=true→p k=true∨(k:Int)∈l
 s:∀i,i<c.zA.length→p i=true→∀k:Nat,(k:Int)∈zdt c i→p k=true∨(k:Int)∈l
theorem zaca (N:Nat) (hN:1048600<N) (hc:CdV m c):∃p:Nat→Bool,zae N c (ziz c)=some ((List.range c.zA.length).map p)∧(∀k,k<c.zA.length→p k=true→Rch c k)∧∀k,Rch c k→p k=true:=by
 have hl:=hc.len
 have hle:(ziz c).length=c.zA.length:=by simp [ziz]
 unfold zae
 rw [hle,ifp,ifp,itn,ble1 (by omega),ctr,z90 N (by omega) hc]
 simp only [obs]
 have hol:(z0g c).length≤c.zA.length:=Nat.le_trans (List.length_filterMap_le _ _) (by simp)
 obtain⟨s,hs,p,rfl,hq⟩:=z1l (f:=zae.r2 N) (fun s=>∃p o,s=((List.range c.zA.length).map p,o,c)∧QR c p o∧o.length+3*cnt p c.zA.length≤4*c.zA.length)
  (fun s=>∃p,s=((List.range c.zA.length).map p,[],c)∧QR c p []) (fun s=>match s with|(b,o,_)=>o.length+3*cnt (fun k=>(b[k]?).getD false) c.zA.length) (by
  rintro s ⟨p,o,rfl,hq,hm⟩
  have hcp:cnt (fun k=>(((List.range c.zA.length).map p)[k]?).getD false) c.zA.length=cnt p c.zA.length:=by
   have:∀j,j≤c.zA.length→cnt (fun k=>(((List.range c.zA.length).map p)[k]?).getD false) j=cnt p j:=by
    intro j
    induction j with
    | zero=>intro _;rfl
    | succ j ih=>
     intro hj;simp only [cnt];rw [ih (by omega),zjp p (show j<c.zA.length by omega)];rfl
   exact this _ (Nat.le_refl _)
  cases o with
  | nil=>exact .inr ⟨_,by simp [zae.r2,zae.b2],p,rfl,hq⟩
  | cons z o=>
   left;obtain⟨x,rfl,hx⟩:=hq.w z (by simp);have hxl:=hx.lt hc;have hol2:o.length+1≤4*c.zA.length:=by simp only [lnc]at hm;omega
   simp only [zae.r2,zae.b2,lnc];rw [dct (by omega),ctr,ifp,ifp];simp only [Int.toNat_zero,List.getElem?_cons_zero,obs];rw [ifp,ifp,ifp (by simp;omega),itn,zjp p hxl,obs];cases hp:p x with
   | true=>
    refine⟨_,rfl,⟨p,o,rfl,⟨hq.r,fun z hz=>hq.w z (by simp [hz]),fun k hk he=> ?_,fun i hi hpi k hk=> ?_⟩,by simp only [lnc]at hm;omega⟩,?_⟩
    · rcases hq.e k hk he with h|h
      · exact .inl h
      · rcases List.mem_cons.1 h with h|h
        · obtain rfl:k=x:=by omega
          exact .inl hp
        · exact .inr h
    · rcases hq.s i hi hpi k hk with h|h
      · exact .inl h
      · rcases List.mem_cons.1 h with h|h
        · obtain rfl:k=x:=by omega
          exact .inl hp
        · exact .inr h
    · simp
   | false=>
    have hsl:=z4a (c:=c) (i:=x);have hcu:=z2n p x c.zA.length;rw [dct hxl,hp]at hcu;simp only [Bool.not_false,Bool.and_true,ctr]at hcu;have hone:(1:Int).toNat=1:=rfl;rw [z7h (by omega) hxl];simp only [Bool.not_false,ctr,obs,hone,List.drop_succ_cons,dr0];rw [ifp,ifp (by simp;omega),zx3 (by omega),ctr,z11];refine⟨_,rfl,⟨upd p x,o++zdt c x,rfl,⟨fun k hk hpk=> ?_,fun z hz=> ?_,fun k hk he=> ?_,fun i hi hpi k hk=> ?_⟩,?_⟩,?_⟩
    · unfold upd at hpk;split at hpk
      · rename_i e;subst e;exact hx
      · exact hq.r k hk hpk
    · rcases List.mem_append.1 hz with hz|hz
      · exact hq.w z (by simp [hz])
      · obtain⟨k,rfl,_⟩:=zx9 hc hz;exact⟨k,rfl,.step hx hz⟩
    · unfold upd;split
      · exact .inl rfl
      · rename_i e;rcases hq.e k hk he with h|h
        · exact .inl h
        · rcases List.mem_cons.1 h with h|h
          · omega
          · exact .inr (by simp [h])
    · unfold upd at hpi⊢;split at hpi
      · rename_i e;subst e;exact .inr (by simp [hk])
      · split
        · exact .inl rfl
        · rename_i e;rcases hq.s i hi hpi k hk with h|h
          · exact .inl h
          · rcases List.mem_cons.1 h with h|h
            · omega
            · exact .inr (by simp [h])
    · simp only [lnc]at hm;rw [lna];omega
    · have:cnt (fun k=>(((List.range c.zA.length).map (upd p x))[k]?).getD false) c.zA.length=cnt (upd p x) c.zA.length:=by
       have:∀j,j≤c.zA.length→cnt (fun k=>(((List.range c.zA.length).map (upd p x))[k]?).getD false) j=cnt (upd p x) j:=by
        intro j
        induction j with
        | zero=>intro _;rfl
        | succ j ih=>
         intro hj;simp only [cnt];rw [ih (by omega),zjp (upd p x) (show j<c.zA.length by omega)];rfl
       exact this _ (Nat.le_refl _)
      simp only [this,hcp,lna,lnc];omega) N (List.replicate c.zA.length false,z0g c,c) ⟨fun _=>false,z0g c,by rw [zzz],⟨fun k _ h=>by simp at h,fun z hz=>by
   obtain⟨k,e,hk,he⟩:=z5v.1 hz;exact⟨k,e,.ent hk he⟩,fun k hk he=> .inr (z5v.2 ⟨k,rfl,hk,he⟩),fun i _ h=>by simp at h⟩,by have:=z6e (fun _=>false) c.zA.length;omega⟩ (by
    show(z0g c).length+3*cnt _ _<N;have:=z6e (fun k=>((List.replicate c.zA.length false)[k]?).getD false) c.zA.length;omega)
 rw [hs]
 refine⟨p,rfl,hq.r,zagq hc hq.r (fun k hk he=> ?_) fun i hi hp k hk=> ?_⟩
 · rcases hq.e k hk he with h|h
   · exact h
   · simp at h
 · rcases hq.s i hi hp k hk with h|h
   · exact h
   · simp at h
variable {m:zJ} {c:zH}
theorem z3i {p q:Nat→Bool}:∀n,(∀k,k<n→p k=q k)→cnt p n=cnt q n
 | 0,_=>rfl
 | n+1,h=>by simp only [cnt];rw [z3i n (fun k hk=>h k (by omega)),h n (by omega)]
structure PS (c:zH) (p0 p:Nat→Bool) (b:Bool):Prop where
 sub:∀k,p0 k=true→p k=true
 r:∀k,k<c.zA.length→p k=true→Rch c k
 f:b=false→∀k,k<c.zA.length→p k=p0 k
 t:b=true→cnt p c.zA.length<cnt p0 c.zA.length
theorem PS.mark {p0 p:Nat→Bool} {b:Bool} (h:PS c p0 p b) {k:Nat} (hk:k<c.zA.length) (hr:Rch c k):PS c p0 (upd p k) (b|| !p k):=by
 have hcu:=z2n p k c.zA.length
 rw [dct hk]at hcu
 refine⟨fun j hj=> ?_,fun j hj hp=> ?_,fun hb j hj=> ?_,fun hb=> ?_⟩
 · unfold upd;split
   · rfl
   · exact h.sub j hj
 · unfold upd at hp;split at hp
   · rename_i e;subst e;exact hr
   · exact h.r j hj hp
 · rw [Bool.or_eq_false_iff,Bool.not_eq_false']at hb;unfold upd;split
   · rename_i e;subst e;rw [←h.f hb.1 j hj,hb.2]
   · exact h.f hb.1 j hj
 · cases b with
   | true=>have:=h.t rfl;omega
   | false=>
    have e:=z3i c.zA.length (h.f rfl);have hp:p k=false:=by simpa using hb
    rw [hp]at hcu;simp at hcu;omega
variable {m:zJ} {c:zH}
def zh0 {α:Type} (G:Nat→α) (x:Nat) (v:α) (k:Nat):α:=if k=x then v else G k
theorem z5d {α:Type} {n:Nat} (f:Nat→α) {k:Nat} (v:α):((List.range n).map f).set k v=(List.range n).map (zh0 f k v):=by
 apply List.ext_getElem?
 intro i
 rw [List.getElem?_set,List.getElem?_map,List.getElem?_map,lnm,List.length_range]
 unfold zh0
 by_cases hi:i<n
 · rw [List.getElem?_range hi]
   by_cases e:k=i
   · subst e;simp [hi]
   · simp [e,Ne.symm e]
 · rw [List.getElem?_eq_none (by simpa using hi)]
   by_cases e:k=i
   · subst e;simp [hi]
   · simp [e]
theorem zr2 {α:Type} {n:Nat} (f:Nat→α) {k:Nat} (h:k<n):((List.range n).map f)[k]?=some (f k):=by
 rw [List.getElem?_map,List.getElem?_range h]
 rfl
theorem zz8 {α:Type}:∀(l u:List α),l.Nodup→(∀x∈l,x∈u)→l.length≤u.length
 | [],_,_,_=>Nat.zero_le _
 | x::l,u,hn,hs=>by
  obtain⟨h1,h2⟩:=List.nodup_cons.1 hn;obtain⟨a,b,rfl⟩:=List.append_of_mem (hs x (by simp));have:=zz8 l (a++b) h2 (fun y hy=>by
   have hy2:=hs y (by simp [hy]);rcases List.mem_append.1 hy2 with h|h
   · exact List.mem_append.2 (.inl h)
   · rcases List.mem_cons.1 h with rfl|h
     · exact absurd hy h1
     · exact List.mem_append.2 (.inr h))
  simp only [lna,lnc]at this⊢;omega
def zr7 (c:zH):List zD:=(List.range 8).flatMap fun r:Nat=>c.zA.flatMap fun x=>[⟨(r:Int),x.zF,-1⟩,⟨(r:Int),x.zF,x.Place.Offset⟩]
theorem flat_len {α β:Type} (f:α→List β) (k:Nat) (h:∀x,(f x).length=k):∀l:List α,(l.flatMap f).length=l.length*k
 | []=>by simp
 | x::l=>by rw [List.flatMap_cons,lna,h,flat_len f k h l,lnc,Nat.succ_mul];omega
theorem z7g (hc:CdV m c):(zr7 c).length≤3840:=by
 unfold zr7
 rw [flat_len _ (c.zA.length*2) (fun r=>flat_len _ 2 (fun x=>rfl) _)]
 have:=hc.len
 simp only [List.length_range]
 omega
theorem z13 {f:zD}:f∈zr7 c↔(0≤f.Register∧f.Register<8)∧∃x∈c.zA,f.zF=x.zF∧(f.Offset= -1∨f.Offset=x.Place.Offset):=by
 unfold zr7
 rw [List.mem_flatMap]
 constructor
 · rintro ⟨r,hr,h⟩
   have hr:r<8:=by simpa using hr
   rw [List.mem_flatMap]at h;obtain⟨x,hx,h⟩:=h;rcases List.mem_cons.1 h with rfl|h
   · exact⟨⟨by simp,by show(r:Int)<8;omega⟩,x,hx,rfl,.inl rfl⟩
   · obtain rfl:f=⟨(r:Int),x.zF,x.Place.Offset⟩:=by simpa using h
     exact⟨⟨by simp,by show(r:Int)<8;omega⟩,x,hx,rfl,.inr rfl⟩
 · rintro ⟨⟨h1,h2⟩,x,hx,ht,ho⟩
   refine⟨f.Register.toNat,by simp;omega,?_⟩;rw [List.mem_flatMap];refine⟨x,hx,?_⟩;have hr:((f.Register.toNat:Nat):Int)=f.Register:=by omega
   rw [hr];obtain⟨r,t,o⟩:=f;simp only at ht ho;subst ht;rcases ho with rfl|rfl
   · simp
   · simp
theorem zaf5 (hc:CdV m c) {x:zB} (hx:x∈c.zA) {l:List zD} (hl:∀f∈l,f∈zr7 c) {f:zD} (h:Beh x l f):f∈zr7 c:=by
 have hi:=hc.ins x hx
 have hm:=hc.m2
 have mk:∀{o:Int},(0≤x.R∧x.R<m.Registers)→(o= -1∨o=x.Place.Offset)→(⟨x.R,x.zF,o⟩:zD)∈zr7 c:=fun hr ho=>z13.2 ⟨⟨hr.1,by show x.R<8;omega⟩,x,hx,rfl,ho⟩
 have about:∀g∈l,(0≤x.R∧x.R<m.Registers)→(⟨x.R,g.zF,g.Offset⟩:zD)∈zr7 c:=fun g hg hr=>by
  obtain⟨_,y,hy,h1,h2⟩:=z13.1 (hl g hg);exact z13.2 ⟨⟨hr.1,by show x.R<8;omega⟩,y,hy,h1,h2⟩
 unfold Beh at h
 split at h
 · rename_i e;rcases h with⟨h,_⟩|rfl|⟨hb,rfl|⟨_,_,_,_,g,hg,_,rfl⟩⟩
   · exact hl _ h
   · exact mk (hi.r (.inl e)) (.inl rfl)
   · exact mk (hi.r (.inl e)) (.inr rfl)
   · exact about g hg (hi.r (.inl e))
 · split at h
   · rcases h with⟨h,_⟩|rfl
     · exact hl _ h
     · exact mk (hi.r (by omega)) (.inl rfl)
   · split at h
     · exact hl _ h.1
     · split at h
       · rcases h with⟨h,_⟩|⟨g,hg,_,rfl⟩
         · exact hl _ h
         · exact about g hg (hi.r (by omega))
       · split at h
         · rcases h with⟨_,h,_⟩|⟨hb,⟨h,_⟩|⟨e1,_,rfl⟩⟩
           · exact hl _ h
           · exact hl _ h
           · exact mk (hi.r (by omega)) (.inr rfl)
         · split at h
           · exact hl _ h.1
           · exact hl _ h
theorem zadq {x:zB} {l l':List zD} (hs:∀f∈l,f∈l') {f:zD} (h:Beh x l f):Beh x l' f:=by
 unfold Beh at h⊢
 split
 · rename_i e;rw [ifp e]at h;rcases h with⟨h,h'⟩|h|⟨hb,h|⟨a,ha,h1,h2,g,hg,h3,h4⟩⟩
   · exact .inl ⟨hs _ h,h'⟩
   · exact .inr (.inl h)
   · exact .inr (.inr ⟨hb,.inl h⟩)
   · exact .inr (.inr ⟨hb,.inr ⟨a,hs _ ha,h1,h2,g,hs _ hg,h3,h4⟩⟩)
 · rename_i e;rw [ifn e]at h;split
   · rename_i e;rw [ifp e]at h;rcases h with⟨h,h'⟩|h
     · exact .inl ⟨hs _ h,h'⟩
     · exact .inr h
   · rename_i e;rw [ifn e]at h;split
     · rename_i e;rw [ifp e]at h;exact⟨hs _ h.1,h.2⟩
     · rename_i e;rw [ifn e]at h;split
       · rename_i e;rw [ifp e]at h;rcases h with⟨h,h'⟩|⟨g,hg,h1,h2⟩
         · exact .inl ⟨hs _ h,h'⟩
         · exact .inr ⟨g,hs _ hg,h1,h2⟩
       · rename_i e;rw [ifn e]at h;split
         · rename_i e;rw [ifp e]at h;rcases h with⟨hb,h,h'⟩|⟨hb,⟨h,h'⟩|⟨h1,h2,h3⟩⟩
           · exact .inl ⟨hb,hs _ h,h'⟩
           · exact .inr ⟨hb,.inl ⟨hs _ h,h'⟩⟩
           · exact .inr ⟨hb,.inr ⟨h1,hs _ h2,h3⟩⟩
         · rename_i e;rw [ifn e]at h;split
           · rename_i e;rw [ifp e]at h;exact⟨hs _ h.1,h.2⟩
           · rename_i e;rw [ifn e]at h;exact hs _ h
def fxB (c:zH) (R:Nat→Bool) (k:Nat):Bool:=zk4 c k|| !R k
def Nok (c:zH) (R:Nat→Bool) (D:Nat→Bool) (G:Nat→List zD) (i:Nat):Prop:=
 ∀x,c.zA[i]?=some x→∀k:Nat,(k:Int)∈zdt c i→fxB c R k=false→D k=true∧∀f∈G k,Beh x (G i) f
structure Cl (c:zH) (R:Nat→Bool) (D:Nat→Bool) (G:Nat→List zD):Prop where
 fx:∀k,k<c.zA.length→fxB c R k=true→D k=true∧G k=[]
 st:∀i,i<c.zA.length→D i=true→Nok c R D G i
structure Inv (m:zJ) (c:zH) (R:Nat→Bool) (D:Nat→Bool) (G:Nat→List zD):Prop where
 so:∀k,zpo (G k)
 ok:∀k,∀f∈G k,FctV m c f
 un:∀k,∀f∈G k,f∈zr7 c
 no:∀k,D k=false→G k=[]
 fx:∀k,k<c.zA.length→fxB c R k=true→D k=true∧G k=[]
 ab:∀D' G',Cl c R D' G'→∀k,k<c.zA.length→D k=true→D' k=true∧∀f∈G' k,f∈G k
theorem zwz {l:List zD} (h:zpo l):l.Nodup:=by
 unfold List.Nodup
 refine List.Pairwise.imp ?_ h
 intro a b hab e
 subst e
 rw [Proofs.Tryz.ltF_swo.1]at hab
 cases hab
theorem z2h (hc:CdV m c) {R D:Nat→Bool} {G:Nat→List zD} (h:Inv m c R D G) (k:Nat):(G k).length≤3840:=Nat.le_trans (zz8 _ _ (zwz (h.so k)) (h.un k)) (z7g hc)
def mea (D:Nat→Bool) (G:Nat→List zD):Nat→Nat
 | 0=>0
 | n+1=>mea D G n+cond (D n) (G n).length 3841
theorem zaa6 {D:Nat→Bool} {G:Nat→List zD} (h:∀k,(G k).length≤3840):∀n,mea D G n≤n*3841
 | 0=>Nat.le_refl _
 | n+1=>by
  have:=zaa6 (D:=D) h n;have:=h n;simp only [mea,Nat.succ_mul];cases D n<;>simp<;>omega
theorem z7s (D:Nat→Bool) (G:Nat→List zD) (x:Nat) (v:List zD):∀n,mea (upd D x) (zh0 G x v) n+cond (decide (x<n)) (cond (D x) (G x).length 3841) 0=mea D G n+cond (decide (x<n)) v.length 0
 | 0=>by simp [mea]
 | n+1=>by
  have ih:=z7s D G x v n;simp only [mea]
  by_cases e:n=x
  · subst e;rw [dcf (Nat.lt_irrefl n)]at ih;simp only [cfa,Nat.add_zero]at ih;rw [dct (Nat.lt_succ_self n),ih];have h1:upd D n n=true:=by simp [upd]
    have h2:zh0 G n v n=v:=by simp [zh0]
    rw [h1,h2];simp only [ctr];omega
  · have h1:upd D x n=D n:=by simp [upd,e]
    have h2:zh0 G x v n=G n:=by simp [zh0,e]
    have h3:decide (x<n+1)=decide (x<n):=by
     by_cases h:x<n
     · rw [dct h,dct (by omega)]
     · rw [dcf h,dcf (by omega)]
    rw [h1,h2,h3];omega
def nxt (D:Nat→Bool) (G:Nat→List zD) (r:List zD) (k:Nat):List zD:=cond (D k) ((G k).filter fun f=>znz r f) r
theorem zac7 (hc:CdV m c) {R D:Nat→Bool} {G:Nat→List zD} (h:Inv m c R D G) {r:List zD} {k:Nat} (hk:k<c.zA.length) (hf:fxB c R k=false) (hs:zpo r) (ho:∀f∈r,FctV m c f) (hu:∀f∈r,f∈zr7 c)
 (hr:∀D' G',Cl c R D' G'→D' k=true∧∀f∈G' k,f∈r):Inv m c R (upd D k) (zh0 G k (nxt D G r k)):=by
 have mem:∀f∈nxt D G r k,f∈r∧(D k=true→f∈G k):=fun f hf=>by
  unfold nxt at hf;cases hd:D k with
  | true=>rw [hd,ctr,List.mem_filter,zm8]at hf;exact⟨hf.2,fun _=>hf.1⟩
  | false=>rw [hd,cfa]at hf;exact⟨hf,fun h=>by cases h⟩
 refine⟨fun j=> ?_,fun j f hf'=> ?_,fun j f hf'=> ?_,fun j hj=> ?_,fun j hj hfx=> ?_,fun D' G' hcl j hj hd=> ?_⟩
 · unfold zh0;split
   · unfold nxt;cases D k with
     | true=>exact List.Pairwise.filter _ (h.so k)
     | false=>exact hs
   · exact h.so j
 · unfold zh0 at hf';split at hf'
   · exact ho f (mem f hf').1
   · exact h.ok j f hf'
 · unfold zh0 at hf';split at hf'
   · exact hu f (mem f hf').1
   · exact h.un j f hf'
 · unfold upd at hj;split at hj
   · cases hj
   · rename_i e;unfold zh0;rw [ifn e];exact h.no j hj
 · have e:j≠k:=fun e=>by subst e;rw [hf]at hfx;cases hfx
   unfold upd zh0;rw [ifn e,ifn e];exact h.fx j hj hfx
 · unfold zh0;unfold upd at hd;split at hd
   · rename_i e;subst e;obtain⟨q1,q2⟩:=hr D' G' hcl;refine⟨q1,fun f hf'=> ?_⟩;rw [ifp rfl];unfold nxt;cases hd2:D j with
     | true=>rw [ctr,List.mem_filter,zm8];exact⟨(h.ab D' G' hcl j hj hd2).2 f hf',q2 f hf'⟩
     | false=>exact q2 f hf'
   · rename_i e;rw [ifn e];exact h.ab D' G' hcl j hj hd
variable {m:zJ} {c:zH} {R:Nat→Bool}
def zp7 (c:zH) (R D:Nat→Bool) (G:Nat→List zD) (r:List zD) (k:Nat):Bool:= !fxB c R k&&(!D k||decide ((nxt D G r k).length<(G k).length))
theorem zahv {D:Nat→Bool} {G:Nat→List zD} {r:List zD} {k:Nat} (he:zp7 c R D G r k=false) (hf:fxB c R k=false):D k=true∧∀f∈G k,f∈r:=by
 unfold zp7 at he
 rw [hf,Bool.not_false,Bool.true_and,Bool.or_eq_false_iff,Bool.not_eq_false']at he
 refine⟨he.1,fun f hf'=> ?_⟩
 have h2:=of_decide_eq_false he.2
 have h3:(G k).filter (fun f=>znz r f)=G k:=by
  have hl:((G k).filter fun f=>znz r f).length=(G k).length:=by
   have h4:nxt D G r k=(G k).filter fun f=>znz r f:=by unfold nxt;rw [he.1];rfl
   rw [h4]at h2;have:=List.length_filter_le (fun f=>znz r f) (G k);omega
  rw [List.filter_eq_self];exact List.length_filter_eq_length_iff.1 hl
 rw [←h3]at hf'
 exact zm8.1 (List.mem_filter.1 hf').2
theorem zafe (hc:CdV m c) {D:Nat→Bool} {G:Nat→List zD} {r:List zD} (hr:r.length≤3840) {k:Nat} (hk:k<c.zA.length) (he:zp7 c R D G r k=true):
 mea (upd D k) (zh0 G k (nxt D G r k)) c.zA.length<mea D G c.zA.length:=by
 have h:=z7s D G k (nxt D G r k) c.zA.length
 rw [dct hk]at h
 simp only [ctr]at h
 unfold zp7 at he
 rw [Bool.and_eq_true,Bool.or_eq_true]at he
 cases hd:D k with
 | false=>
  rw [hd]at h;have:nxt D G r k=r:=by unfold nxt;rw [hd];rfl
  rw [this]at h⊢;simp only [cfa]at h;omega
 | true=>
  rw [hd]at h he;have:=of_decide_eq_true (he.2.resolve_left (by decide));simp only [ctr]at h;omega
theorem zae2 {D:Nat→Bool} {G:Nat→List zD} {r:List zD} {k i:Nat} (hne:i≠k) (h:Nok c R D G i):Nok c R (upd D k) (zh0 G k (nxt D G r k)) i:=by
 intro x hx q hq hf
 obtain⟨h1,h2⟩:=h x hx q hq hf
 have e:zh0 G k (nxt D G r k) i=G i:=by unfold zh0;rw [ifn hne]
 rw [e]
 refine⟨by unfold upd;split<;>first|rfl|exact h1,fun f hf'=> ?_⟩
 unfold zh0 at hf'
 split at hf'
 · rename_i eq;subst eq;unfold nxt at hf';rw [h1,ctr]at hf';exact h2 f (List.mem_filter.1 hf').1
 · exact h2 f hf'
structure Giv (m:zJ) (c:zH) (R:Nat→Bool) (i:Nat) (x:zB) (gi r:List zD):Prop where
 at_:c.zA[i]?=some x
 mem:∀f,f∈r↔Beh x gi f
 so:zpo r
 ok:∀f∈r,FctV m c f
 un:∀f∈r,f∈zr7 c
 ab:∀D' G',Cl c R D' G'→D' i=true∧∀f∈G' i,f∈gi
theorem z7u (hc:CdV m c) {i:Nat} {x:zB} {gi r:List zD} (h:Giv m c R i x gi r):r.length≤3840:=Nat.le_trans (zz8 _ _ (zwz h.so) h.un) (z7g hc)
theorem zag8 (hc:CdV m c) {D:Nat→Bool} {G:Nat→List zD} (h:Inv m c R D G) {i:Nat} (hi:i<c.zA.length) (hd:D i=true) {r:List zD} (hm:∀f,f∈r↔Beh c.zA[i] (G i) f) (hs:zpo r):Giv m c R i c.zA[i] (G i) r:=
 ⟨lge hi,hm,hs,fun f hf=>zabz (hc.ins _ (List.getElem_mem hi)) (h.ok i) ((hm f).1 hf),fun f hf=>zaf5 hc (List.getElem_mem hi) (h.un i) ((hm f).1 hf),fun D' G' hcl=>h.ab D' G' hcl i hi hd⟩
theorem zadc {i:Nat} (hi:i<c.zA.length) {x:zB} {gi r:List zD} (h:Giv m c R i x gi r) {k:Nat} (hk:(k:Int)∈zdt c i) (hf:fxB c R k=false):∀D' G',Cl c R D' G'→D' k=true∧∀f∈G' k,f∈r:=by
 intro D' G' hcl
 obtain⟨h1,h2⟩:=h.ab D' G' hcl
 obtain⟨h3,h4⟩:=hcl.st i hi h1 x h.at_ k hk hf
 exact⟨h3,fun f hf'=>(h.mem f).2 (zadq h2 (h4 f hf'))⟩
theorem zae6 (hc:CdV m c) {D:Nat→Bool} {G:Nat→List zD} (h:Inv m c R D G) {i:Nat} (hi:i<c.zA.length) {x:zB} {gi r:List zD} (g:Giv m c R i x gi r) {k:Nat} (hkl:k<c.zA.length) (hk:(k:Int)∈zdt c i) (he:zp7 c R D G r k=true):
 Inv m c R (upd D k) (zh0 G k (nxt D G r k)):=by
 have hf:fxB c R k=false:=by
  unfold zp7 at he;rw [Bool.and_eq_true,Bool.not_eq_true']at he;exact he.1
 exact zac7 hc h hkl hf g.so g.ok g.un (zadc hi g hk hf)
theorem zacx {D:Nat→Bool} {G:Nat→List zD} {r:List zD} {k:Nat}:(upd D k) k=true∧∀f∈zh0 G k (nxt D G r k) k,f∈r:=by
 refine⟨by simp [upd],fun f hf=> ?_⟩
 unfold zh0 at hf
 rw [ifp rfl]at hf
 unfold nxt at hf
 cases hd:D k with
 | true=>rw [hd,ctr,List.mem_filter,zm8]at hf;exact hf.2
 | false=>rw [hd,cfa]at hf;exact hf
theorem zz9 {D:Nat→Bool} {G:Nat→List zD} {r:List zD} {k q:Nat} (hd:D q=true):(upd D k) q=true∧∀f∈zh0 G k (nxt D G r k) q,f∈G q:=by
 refine⟨by unfold upd;split<;>first|rfl|exact hd,fun f hf=> ?_⟩
 unfold zh0 at hf
 split at hf
 · rename_i e;subst e;unfold nxt at hf;rw [hd,ctr]at hf;exact(List.mem_filter.1 hf).1
 · exact hf
structure QS (m:zJ) (c:zH) (R:Nat→Bool) (i:Nat) (gi r:List zD) (M0 j:Nat) (D:Nat→Bool) (G:Nat→List zD) (o:List Int):Prop where
 inv:Inv m c R D G
 mem:∀z∈o,∃k:Nat,z=(k:Int)∧k<c.zA.length∧D k=true
 di:D i=true
 gi:(i:Int)∈o∨G i=gi
 a:∀i',i'<c.zA.length→i'≠i→D i'=true→(i':Int)∈o∨Nok c R D G i'
 b:∀t,t<j→∀k:Nat,(zdt c i)[t]?=some (k:Int)→fxB c R k=false→D k=true∧∀f∈G k,f∈r
 le:o.length+mea D G c.zA.length≤M0
theorem zaes (hc:CdV m c) {i:Nat} (hi:i<c.zA.length) {x:zB} {gi r:List zD} (g:Giv m c R i x gi r) {M0 j:Nat} {D:Nat→Bool} {G:Nat→List zD} {o:List Int} (h:QS m c R i gi r M0 j D G o) {k:Nat} (hj:(zdt c i)[j]?=some (k:Int)) (hkl:k<c.zA.length):
 (zp7 c R D G r k=true→QS m c R i gi r M0 (j+1) (upd D k) (zh0 G k (nxt D G r k)) (o++[(k:Int)]))∧(zp7 c R D G r k=false→QS m c R i gi r M0 (j+1) D G o):=by
 constructor
 · intro he;refine⟨zae6 hc h.inv hi g hkl (lmg hj) he,fun z hz=> ?_,(zz9 (G:=G) (r:=r) h.di).1,?_,fun i' hi' hne hd=> ?_,fun t ht q hq hf=> ?_,?_⟩
   · rcases List.mem_append.1 hz with hz|hz
     · obtain⟨q,e,hq,hd⟩:=h.mem z hz;exact⟨q,e,hq,(zz9 (G:=G) (r:=r) hd).1⟩
     · obtain rfl:z=(k:Int):=by simpa using hz
       exact⟨k,rfl,hkl,by simp [upd]⟩
   · by_cases e:i=k
     · subst e;exact .inl (by simp)
     · rcases h.gi with hg|hg
       · exact .inl (by simp [hg])
       · exact .inr (by unfold zh0;rw [ifn e];exact hg)
   · by_cases e:i'=k
     · subst e;exact .inl (by simp)
     · unfold upd at hd;rw [ifn e]at hd;rcases h.a i' hi' hne hd with ha|ha
       · exact .inl (by simp [ha])
       · exact .inr (zae2 e ha)
   · by_cases e:t=j
     · subst e;rw [hj]at hq;obtain rfl:k=q:=by have:=Option.some.inj hq;omega
       exact zacx
     · obtain⟨h1,h2⟩:=h.b t (by omega) q hq hf;obtain⟨h3,h4⟩:=zz9 (G:=G) (r:=r) (k:=k) h1;exact⟨h3,fun f hf'=>h2 f (h4 f hf')⟩
   · have:=zafe hc (z7u hc g) hkl he;have:=h.le;simp only [lna,lns];omega
 · intro he;refine⟨h.inv,h.mem,h.di,h.gi,h.a,fun t ht q hq hf=> ?_,h.le⟩
   by_cases e:t=j
   · subst e;rw [hj]at hq;obtain rfl:k=q:=by have:=Option.some.inj hq;omega
     exact zahv he hf
   · exact h.b t (by omega) q hq hf
theorem z92 (N:Nat) (hN:1048600<N) (hc:CdV m c) {i:Nat} (hi:i<c.zA.length) {x:zB} {gi r:List zD} (g:Giv m c R i x gi r) {M0:Nat} (hM:M0≤1000000) {D:Nat→Bool} {G:Nat→List zD} {o:List Int} (h:QS m c R i gi r M0 0 D G o):
 ∃D' G' o',zh (zi.r4 N) N (ziz c,(List.range c.zA.length).map R,(List.range c.zA.length).map G,(List.range c.zA.length).map D,r,zdt c i,((zdt c i).length:Int),0,o,c)=
  some (ziz c,(List.range c.zA.length).map R,(List.range c.zA.length).map G',(List.range c.zA.length).map D',r,zdt c i,((zdt c i).length:Int),((zdt c i).length:Int),o',c)∧QS m c R i gi r M0 (zdt c i).length D' G' o':=by
 have hl:=hc.len
 have hsl:=z4a (c:=c) (i:=i)
 have hrl:=z7u hc g
 obtain⟨s,hs,D',G',o',rfl,hq⟩:=zmi (f:=zi.r4 N) (fun j s=>∃D G o,s=(ziz c,(List.range c.zA.length).map R,(List.range c.zA.length).map G,(List.range c.zA.length).map D,r,zdt c i,((zdt c i).length:Int),(j:Int),o,c)∧QS m c R i gi r M0 j D G o) (zdt c i).length (by
  rintro j s hj ⟨D,G,o,rfl,h⟩
  have hx:=lge hj;obtain⟨k,hk0,hkl⟩:=zx9 hc (List.getElem_mem hj);rw [hk0]at hx;obtain⟨q1,q2⟩:=zaes hc hi g h hx hkl;have hent:(ziz c)[k]?=some (zk4 c k):=zjp _ hkl;have hR:((List.range c.zA.length).map R)[k]?=some (R k):=zjp _ hkl;have hD:((List.range c.zA.length).map D)[k]?=some (D k):=zjp _ hkl;have hG:((List.range c.zA.length).map G)[k]?=some (G k):=zr2 _ hkl;have hgl:=z2h hc h.inv k;have hol:o.length+1≤1000000∨zp7 c R D G r k=false:=by
   cases he:zp7 c R D G r k with
   | false=>exact .inr rfl
   | true=>
    have:=(q1 he).le;simp only [lna,lns]at this;exact .inl (by omega)
  have hstep:zi.r4 N (ziz c,(List.range c.zA.length).map R,(List.range c.zA.length).map G,(List.range c.zA.length).map D,r,zdt c i,((zdt c i).length:Int),(j:Int),o,c)=
   some (.again (if zp7 c R D G r k=true then(ziz c,(List.range c.zA.length).map R,(List.range c.zA.length).map (zh0 G k (nxt D G r k)),(List.range c.zA.length).map (upd D k),r,zdt c i,((zdt c i).length:Int),((j+1:Nat):Int),o++[(k:Int)],c)
    else(ziz c,(List.range c.zA.length).map R,(List.range c.zA.length).map G,(List.range c.zA.length).map D,r,zdt c i,((zdt c i).length:Int),((j+1:Nat):Int),o,c))):=by
   simp only [zi.r4,zi.b4,zau,hx,hent,hR,hD,hG,obs,dct (show(j:Int)<((zdt c i).length:Int)by omega),ctr,itn,lnm,List.length_range,ifp (show 0≤(k:Int)by omega),ifp (show(k:Int)<(c.zA.length:Int)by omega),orB];rw [w6e,z11,z5d G];have hj1:(j:Int)+1=((j+1:Nat):Int):=by omega
   rw [hj1];have hfx:(zk4 c k|| !R k)=fxB c R k:=rfl;rw [hfx];unfold zp7 at hol⊢;cases hf:fxB c R k with
   | true=>simp
   | false=>
    rw [hf]at hol;cases hd:D k with
    | true=>
     have hn:nxt D G r k=(G k).filter fun f=>znz r f:=by unfold nxt;rw [hd];rfl
     rw [hd]at hol;simp only [cfa,ctr,Bool.not_false,bnt,Bool.true_and,Bool.false_or];rw [z94 N (G k) r (by omega) (by omega) (by omega) (by omega),obs,←hn,z5d G]
     by_cases hlt:(nxt D G r k).length<(G k).length
     · rw [dct (show((nxt D G r k).length:Int)<((G k).length:Int)by omega),dct hlt];have:o.length+1≤1000000:=by
        rcases hol with h|h
        · exact h
        · rw [dct hlt]at h;simp at h
       simp [zx3 this]
     · rw [dcf (show ¬((nxt D G r k).length:Int)<((G k).length:Int)by omega),dcf hlt];simp
    | false=>
     have hn:nxt D G r k=r:=by unfold nxt;rw [hd];rfl
     rw [hd]at hol;have:o.length+1≤1000000:=by
      rcases hol with h|h
      · exact h
      · simp at h
     rw [hn];simp [zx3 this]
  cases he:zp7 c R D G r k with
  | true=>rw [he,ifp rfl]at hstep;exact⟨_,hstep,_,_,_,rfl,q1 he⟩
  | false=>rw [he,ifn (by decide)]at hstep;exact⟨_,hstep,_,_,_,rfl,q2 he⟩)
  (by
   rintro s ⟨D,G,o,rfl,h⟩
   refine⟨_,?_,D,G,o,rfl,h⟩;simp only [zi.r4,zi.b4];rw [dcf (Int.lt_irrefl _)];rfl) (N:=N) (by omega) (s:=(ziz c,(List.range c.zA.length).map R,(List.range c.zA.length).map G,(List.range c.zA.length).map D,r,zdt c i,((zdt c i).length:Int),0,o,c)) ⟨D,G,o,rfl,h⟩
 exact⟨D',G',o',hs,hq⟩
variable {m:zJ} {c:zH} {R:Nat→Bool}
theorem z1m {α:Type} {f:α→Option (Stp α)} (I:Nat→α→Prop) (J:α→Prop) (h:∀n s,I n s→(∃s' n',f s=some (.again s')∧I n' s'∧n'<n)∨(∃s',f s=some (.leave s')∧J s')):
 ∀(N:Nat) (n:Nat) (s:α),I n s→n<N→∃s',zh f N s=some s'∧J s'
 | 0,n,s,_,hN=>by omega
 | N+1,n,s,hI,hN=>by
  rcases h n s hI with⟨s',n',h1,h2,h3⟩|⟨s',h1,h2⟩
  · obtain⟨s2,h4,h5⟩:=z1m I J h N n' s' h2 (by omega);exact⟨s2,by rw [zh,h1];exact h4,h5⟩
  · exact⟨s',by rw [zh,h1];rfl,h2⟩
theorem zaat {α:Type} (n:Nat) (v:α):List.replicate n v=(List.range n).map fun _=>v:=by
 apply List.ext_getElem
 · simp
 · intro i h1 h2;simp
theorem zabb:Inv m c R (fxB c R) (fun _=>[]) where
 so k:=List.Pairwise.nil
 ok k f hf:=by simp at hf
 un k f hf:=by simp at hf
 no k _:=rfl
 fx k hk hf:=⟨hf,rfl⟩
 ab D' G' hcl k hk hd:=by
  obtain⟨h1,h2⟩:=hcl.fx k hk hd;exact⟨h1,fun f hf=>by rw [h2]at hf;exact hf⟩
theorem z93 (N:Nat) (hN:1048600<N) (hc:CdV m c):∃o,zh (zi.r0 N) N (ziz c,(List.range c.zA.length).map R,(List.range c.zA.length).map (fun _=>([]:List zD)),(List.range c.zA.length).map (fun _=>false),[],(c.zA.length:Int),0,c)=
 some (ziz c,(List.range c.zA.length).map R,(List.range c.zA.length).map (fun _=>([]:List zD)),(List.range c.zA.length).map (fxB c R),o,(c.zA.length:Int),(c.zA.length:Int),c)∧
 (∀z∈o,∃k:Nat,z=(k:Int)∧k<c.zA.length∧fxB c R k=true)∧(∀k,k<c.zA.length→fxB c R k=true→(k:Int)∈o)∧o.length≤c.zA.length:=by
 have hl:=hc.len
 obtain⟨s,hs,o,rfl,h1,h2,h3⟩:=zmi (f:=zi.r0 N) (fun i s=>∃o,s=(ziz c,(List.range c.zA.length).map R,(List.range c.zA.length).map (fun _=>([]:List zD)),(List.range c.zA.length).map (fun k=>decide (k<i)&&fxB c R k),o,(c.zA.length:Int),(i:Int),c)∧
  (∀z∈o,∃k:Nat,z=(k:Int)∧k<c.zA.length∧fxB c R k=true)∧(∀k,k<i→fxB c R k=true→(k:Int)∈o)∧o.length≤i) c.zA.length (by
  rintro i s hi ⟨o,rfl,h1,h2,h3⟩
  have hent:(ziz c)[i]?=some (zk4 c i):=zjp _ hi;have hR:((List.range c.zA.length).map R)[i]?=some (R i):=zjp _ hi;have hD:((List.range c.zA.length).map (fun k=>decide (k<i)&&fxB c R k))[i]?=some (decide (i<i)&&fxB c R i):=zjp _ hi;simp only [zi.r0,zi.b0,zau,hent,hR,hD,obs,dct (show(i:Int)<(c.zA.length:Int)by omega),ctr,orB,itn,lnm,List.length_range,ifp (show 0≤(i:Int)by omega),ifp (show(i:Int)<(c.zA.length:Int)by omega),lnc,ln0,zx3 (show o.length+(0+1)≤1000000 by omega)];rw [w6e,show(zk4 c i|| !R i)=fxB c R i from rfl,z11];have hj1:(i:Int)+1=((i+1:Nat):Int):=by omega
  rw [hj1];cases hf:fxB c R i with
  | true=>
   refine⟨_,rfl,o++[(i:Int)],?_,fun z hz=> ?_,fun k hk hfk=> ?_,by simp;omega⟩
   · congr 4
     apply z2g;intro k _;unfold upd;split
     · rename_i e;subst e;rw [dct (Nat.lt_succ_self k),hf];rfl
     · rename_i e;show(decide (k<i)&&fxB c R k)=(decide (k<i+1)&&fxB c R k)
       congr 1
       by_cases h:k<i
       · rw [dct h,dct (by omega)]
       · rw [dcf h,dcf (by omega)]
   · rcases List.mem_append.1 hz with hz|hz
     · exact h1 z hz
     · obtain rfl:z=(i:Int):=by simpa using hz
       exact⟨i,rfl,hi,hf⟩
   · by_cases e:k=i
     · subst e;simp
     · exact List.mem_append.2 (.inl (h2 k (by omega) hfk))
  | false=>
   refine⟨_,rfl,o,?_,h1,fun k hk hfk=> ?_,by omega⟩
   · congr 4
     apply z2g;intro k _
     by_cases e:k=i
     · subst e;rw [hf];simp
     · congr 1
       by_cases h:k<i
       · rw [dct h,dct (by omega)]
       · rw [dcf h,dcf (by omega)]
   · by_cases e:k=i
     · subst e;rw [hf]at hfk;cases hfk
     · exact h2 k (by omega) hfk)
  (by
   rintro s ⟨o,rfl,h1,h2,h3⟩
   refine⟨_,?_,o,rfl,h1,h2,h3⟩;simp only [zi.r0,zi.b0];rw [dcf (Int.lt_irrefl _)];rfl) (N:=N) (by omega) (s:=(ziz c,(List.range c.zA.length).map R,(List.range c.zA.length).map (fun _=>([]:List zD)),(List.range c.zA.length).map (fun _=>false),[],(c.zA.length:Int),0,c)) ⟨[],by
    have e:(fun k=>decide (k<0)&&fxB c R k)=fun _=>false:=by funext k;simp
    rw [e];rfl,fun z hz=>by simp at hz,fun k hk=>by omega,Nat.le_refl _⟩
 refine⟨o,?_,h1,h2,h3⟩
 rw [hs]
 congr 5
 apply z2g
 intro k hk
 rw [dct hk]
 rfl
theorem zacc (N:Nat) (hN:1048600<N) (hc:CdV m c) (hR:∀k,k<c.zA.length→R k=true→Rch c k) (he:zae N c (ziz c)=some ((List.range c.zA.length).map R)):
 ∃D G,zi N c=some ((List.range c.zA.length).map G)∧Inv m c R D G∧Cl c R D G:=by
 have hl:=hc.len
 unfold zi
 rw [z8j N hN hc,obs,he,obs,ifp,ifp,itn,zakj (by omega),ctr,ifp,ifp,ble1 (by omega),ctr,lnr,zaat,zzz]
 obtain⟨o,e0,o1,o2,o3⟩:=z93 (R:=R) N hN hc
 rw [e0]
 simp only [obs]
 have hm0:=zaa6 (D:=fxB c R) (G:=fun _=>[]) (fun k=>by simp) c.zA.length
 obtain⟨s,hs,D,G,rfl,h1,h2⟩:=z1m (f:=zi.r2 N) (fun n s=>∃D G o,s=(ziz c,(List.range c.zA.length).map R,(List.range c.zA.length).map G,(List.range c.zA.length).map D,o,c)∧Inv m c R D G∧(∀z∈o,∃k:Nat,z=(k:Int)∧k<c.zA.length∧D k=true)∧
  (∀i,i<c.zA.length→D i=true→(i:Int)∈o∨Nok c R D G i)∧n=o.length+mea D G c.zA.length∧n≤1000000)
  (fun s=>∃D G,s=(ziz c,(List.range c.zA.length).map R,(List.range c.zA.length).map G,(List.range c.zA.length).map D,[],c)∧Inv m c R D G∧∀i,i<c.zA.length→D i=true→Nok c R D G i) (by
  rintro n s ⟨D,G,o,rfl,h1,h2,h3,hn,hn2⟩
  cases o with
  | nil=>exact .inr ⟨_,by simp [zi.r2,zi.b2],D,G,rfl,h1,fun i hi hd=>(h3 i hi hd).resolve_left (by simp)⟩
  | cons z o=>
   left;obtain⟨i,rfl,hi,hd⟩:=h2 z (by simp);have hx:=lge hi;have hG:((List.range c.zA.length).map G)[i]?=some (G i):=zr2 _ hi;have hgl:=z2h hc h1 i;have hb:=z95 N (by omega) hc.m2 hc.sz (hc.ins _ (List.getElem_mem hi)) (h1.ok i) (show(G i).length<N by omega) (by omega);have g:Giv m c R i c.zA[i] (G i) (zj5 c.zA[i] (G i)):=zag8 hc h1 hi hd (fun f=>zyo) (z9r (h1.so i));simp only [lnc]at hn;obtain⟨D',G',o',e1,q⟩:=z92 N hN hc hi g (M0:=o.length+mea D G c.zA.length) (by omega) (D:=D) (G:=G) (o:=o) ⟨h1,fun z hz=>h2 z (by simp [hz]),hd,.inr rfl,fun i' hi' hne hd'=>by
    rcases h3 i' hi' hd' with h|h
    · rcases List.mem_cons.1 h with h|h
      · omega
      · exact .inl h
    · exact .inr h,fun t ht=>by omega,Nat.le_refl _⟩
   refine⟨_,o'.length+mea D' G' c.zA.length,?_,⟨D',G',o',rfl,q.inv,q.mem,fun i' hi' hd'=> ?_,rfl,?_⟩,?_⟩
   · simp only [zi.r2,zi.b2,lnc];rw [dct (by omega),ctr,ifp,ifp];simp only [Int.toNat_zero,List.getElem?_cons_zero,obs,zau,hx,itn,hG,lnm,List.length_range];rw [ifp,ifp,ifp];simp only [hb,obs,z7h (show c.zA.length≤1000000 by omega) hi,show(1:Int).toNat=1 from rfl,List.drop_succ_cons,dr0,e1]
   · by_cases e:i'=i
     · subst e;rcases q.gi with hg|hg
       · exact .inl hg
       · right;intro x hx' k hk hf;rw [hx]at hx';cases hx';obtain⟨t,ht⟩:=List.getElem?_of_mem hk;obtain⟨b1,b2⟩:=q.b t (gei ht).1 k ht hf;exact⟨b1,fun f hf'=>by rw [hg];exact(g.mem f).1 (b2 f hf')⟩
     · exact q.a i' hi' e hd'
   · have:=q.le;omega
   · have:=q.le;omega) N (o.length+mea (fxB c R) (fun _=>[]) c.zA.length) (ziz c,(List.range c.zA.length).map R,(List.range c.zA.length).map (fun _=>([]:List zD)),(List.range c.zA.length).map (fxB c R),o,c)
   ⟨fxB c R,fun _=>[],o,rfl,zabb,o1,fun i hi hd=> .inl (o2 i hi hd),rfl,by omega⟩ (by omega)
 rw [hs]
 exact⟨D,G,rfl,h1,⟨h1.fx,h2⟩⟩
variable {m:zJ} {c:zH} {R:Nat→Bool}
variable {m:zJ} {c:zH}
variable {m:zJ} {c:zH}
variable {m:zJ} {c:zH}
variable {m:zJ} {c:zH}
variable {m:zJ} {c:zH}
variable {m:zJ} {c:zH}
theorem zabu (hc:CdV m c) {R D:Nat→Bool} {G:Nat→List zD} (hR:∀k,k<c.zA.length→(R k=true↔Rch c k)) (hi:Inv m c R D G) (hcl:Cl c R D G):∀k,k<c.zA.length→z6h c ((List.range c.zA.length).map G) k=false:=by
 have hD:∀k,k<c.zA.length→D k=true:=by
  have hr:∀k,Rch c k→D k=true:=by
   intro k h
   induction h with
   | ent h he=>exact(hcl.fx _ h (by unfold fxB;rw [he];rfl)).1
   | step h hs ih=>
    rename_i i k;have hil:=h.lt hc;obtain⟨k',e,hk⟩:=zx9 hc hs;obtain rfl:k=k':=by omega
    cases hf:fxB c R k with
    | true=>exact(hcl.fx k hk hf).1
    | false=>exact(hcl.st i hil ih _ (lge hil) k hs hf).1
  intro k hk;cases hf:fxB c R k with
  | true=>exact(hcl.fx k hk hf).1
  | false=>
   unfold fxB at hf;rw [Bool.or_eq_false_iff,Bool.not_eq_false']at hf;exact hr k ((hR k hk).1 hf.2)
 intro k hk
 have hF:((List.range c.zA.length).map G)[k]?=some (G k):=zr2 _ hk
 unfold z6h
 rw [Bool.or_eq_false_iff]
 constructor
 · unfold ownB zlh;rw [hF];cases he:zk4 c k with
   | false=>rfl
   | true=>
    have:=(hcl.fx k hk (by unfold fxB;rw [he];rfl)).2;simp [this]
 · rw [List.any_eq_false];intro i hi';have hi':i<c.zA.length:=by simpa using hi'
   have hFi:((List.range c.zA.length).map G)[i]?=some (G i):=zr2 _ hi';unfold badE;rw [Bool.and_eq_true,not_and];intro hs;have hs:=List.contains_iff_mem.1 hs;unfold z9a zlh;rw [hF,Bool.not_eq_true,Option.getD_some,List.any_eq_false];intro f hf;have hb:z3y c ((List.range c.zA.length).map G) i=zj5 c.zA[i] (G i):=by unfold z3y;rw [lge hi',hFi]
   rw [hb,Bool.not_eq_true,Bool.not_eq_false',zm8,zyo];cases hx:fxB c R k with
   | true=>rw [(hcl.fx k hk hx).2]at hf;simp at hf
   | false=>exact(hcl.st i hi' (hD i hi') _ (lge hi') k hs hx).2 f hf
variable {m:zJ} {c:zH}
variable {m:zJ} {c:zH}
variable {m:zJ} {c:zH} {x:Optimization}
variable {m:zJ} {c:zH} {x:Optimization}
variable {m:zJ} {c:zH} {x:Optimization}
theorem zlq {α:Type} {f:α→Option (Stp α)} (I:α→Prop) (m:α→Nat) (Q:α→Prop) (h:∀s,I s→(∃s',f s=some (.again s')∧I s'∧m s'<m s)∨∃s',f s=some (.leave s')∧Q s'):∀{N:Nat} {s:α},I s→m s<N→∃s',zh f N s=some s'∧Q s':=by
 intro N
 induction N with
 | zero=>intro s _ h0;omega
 | succ N ih=>
  intro s hs hN;rcases h s hs with⟨s1,h1,h2,h3⟩|⟨s',h1,h2⟩
  · obtain⟨s',h4,h5⟩:=ih h2 (show m s1<N by omega);exact⟨s',by simp only [zh,h1,obs];exact h4,h5⟩
  · exact⟨s',by simp only [zh,h1,obs],h2⟩
theorem zaba {R α:Type} {f:α→Option (Round R α)} (I:α→Prop) (m:α→Nat) (J:R→Prop) (Q:α→Prop) (h:∀s,I s→(∃s',f s=some (.again s')∧I s'∧m s'<m s)∨(∃s',f s=some (.leave s')∧Q s')∨∃r,f s=some (.result r)∧J r):∀{N:Nat} {s:α},I s→m s<N→(∃s',zo f N s=some (.inr s')∧Q s')∨∃r,zo f N s=some (.inl r)∧J r:=by
 intro N
 induction N with
 | zero=>intro s _ h0;omega
 | succ N ih=>
  intro s hs hN;rcases h s hs with⟨s1,h1,h2,h3⟩|⟨s',h1,h2⟩|⟨r,h1,h2⟩
  · rcases ih h2 (show m s1<N by omega)with⟨s',h4,h5⟩|⟨r,h4,h5⟩
    · exact .inl ⟨s',by simp only [zo,h1,obs];exact h4,h5⟩
    · exact .inr ⟨r,by simp only [zo,h1,obs];exact h4,h5⟩
  · exact .inl ⟨s',by simp only [zo,h1,obs],h2⟩
  · exact .inr ⟨r,by simp only [zo,h1,obs],h2⟩
theorem zmw {n:Int} (h1:0≤n) (h2:n<256):IntKind.wrap .u8 n=n:=by
 have e:(2:Int)^(IntKind.u8.bits)=256:=by decide
 unfold IntKind.wrap
 simp only [e,show IntKind.u8.signed=false from rfl,Bool.false_and]
 simp only [Bool.false_eq_true,if_false]
 omega
theorem zad2 (p:Prop) [Decidable p]:(if p then 1 else 0:Nat)≤1:=by split<;>omega
def zxi (a b:Nat):Int:=if a<b then-1 else if b<a then 1 else 0
end
end Go.Proofs.YtbmfjmakahmclaaGreatDoor.M
