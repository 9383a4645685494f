/- What the program's functions compute, each tied to its code: part 2. -/
import Derived.Test.YtbmfjmakahmclaaGreatDoorF1
namespace Go.Proofs.YtbmfjmakahmclaaGreatDoor.M
open Go Go.Amx
set_option linter.unusedVariables false
set_option maxRecDepth 100000
noncomputable section
def zb9.r0 (N:Nat) (x:Int × Int × Number):=zb9.b0 N x.1 x.2.1 x.2.2
def zb9 (N:Nat) (a0:Number):Option Int:=
 (zi (zb9.r0 N) N (a0.Scale,0,a0)).bind fun y1=>some y1.2.2.N
def zb9.k (N:Nat):Kq:=⟨248,(cvv [T6] [Ty.Number] (zb9 N)),go [] {} [(0,.plain {slots:=[(1,.ptr 1 0),(4,.val T6),(5,.val T6)],boxes:=[(1,Ty.Number,[])]} [T6,T6,Ty.Number] (zi (zb9.r0 N) N))] Proofs.Tryz.func248 (hL:=⟨⟨_,_,rfl,by kernel_rfl⟩,trivial⟩)⟩
def ze5 (N:Nat) (a0:zG) (a1:zA):Option zG:=
 (zbf N a0 a1.Pointer).bind fun r1=>cond (!r1.2.1) (some r1.2.2) ((idx r1.2.2.zC.Registers a1.R).bind fun x2=>(zb9 N x2).bind fun r3=>
  (za9 (w6 (r1.1.Address.Offset+r3)) 0 16777215).bind fun r4=>(zh r1.2.2 (!r4) 5).bind fun r5=>
  cond r5.1 ((zcs N r5.2.zC.Storage a1.Pointer (⟨r1.1.Kind,(⟨r1.1.Address.yF,(w6 (r1.1.Address.Offset+r3))⟩:Address),r1.1.Authority⟩:Pointer)).bind fun r6=>
  some (⟨(⟨r5.2.zC.Registers,r5.2.zC.Condition,r6.1,r5.2.zC.At,r5.2.zC.Stack,r5.2.zC.Lines,r5.2.zC.Status,r5.2.zC.Exception,r5.2.zC.Marks,r5.2.zC.Steps⟩:zC),r5.2.code,r5.2.raised⟩:zG))
  (some r5.2))
def ze5.k (N:Nat):Kq:=⟨247,(ctv [.ptr Ty.zG true [],.val Ty.zA] [] [Ty.zG] [] [Ty.zG,Ty.zA] (ze5 N)),go [za9.k,zh.k,zcs.k N,zbf.k N,zb9.k N] {pk:=[1000000]} [] Proofs.Tryz.func247⟩
def zhs (N:Nat) (a0:zG) (a1:zA):Option zG:=
 cond (a1.Op==14) ((zfm N a1.zF).bind fun r1=>(zbp N a0 a1.Place r1).bind fun r2=>
  cond r2.2.1 ((zcs N r2.2.2.zC.Storage a1.Pointer (⟨0,(⟨1,r2.1⟩:Address),0⟩:Pointer)).bind fun r3=>
  some (⟨(⟨r2.2.2.zC.Registers,r2.2.2.zC.Condition,r3.1,r2.2.2.zC.At,r2.2.2.zC.Stack,r2.2.2.zC.Lines,r2.2.2.zC.Status,r2.2.2.zC.Exception,r2.2.2.zC.Marks,r2.2.2.zC.Steps⟩:zC),r2.2.2.code,r2.2.2.raised⟩:zG))
  (some r2.2.2)) (cond (a1.Op==15) ((zbf N a0 a1.Source).bind fun r4=>
  cond r4.2.1 ((zcs N r4.2.2.zC.Storage a1.Pointer r4.1).bind fun r5=>
  some (⟨(⟨r4.2.2.zC.Registers,r4.2.2.zC.Condition,r5.1,r4.2.2.zC.At,r4.2.2.zC.Stack,r4.2.2.zC.Lines,r4.2.2.zC.Status,r4.2.2.zC.Exception,r4.2.2.zC.Marks,r4.2.2.zC.Steps⟩:zC),r4.2.2.code,r4.2.2.raised⟩:zG))
  (some r4.2.2)) (cond (a1.Op==16) ((ze5 N a0 a1).bind fun r6=>some r6) (cond (a1.Op==17) ((zbf N a0 a1.Pointer).bind fun r7=>
  some r7.2.2) (some a0))))
def zhs.k (N:Nat):Kq:=⟨171,(ctv [.ptr Ty.zG true [],.val Ty.zA] [] [Ty.zG] [] [Ty.zG,Ty.zA] (zhs N)),go [zbp.k N,zfm.k N,zcs.k N,zbf.k N,ze5.k N] {lits:=[18],pk:=[1000000]} [] Proofs.Tryz.func171⟩
def zfe (N:Nat) (a0:zG) (a1:zA):Option zG:=
 (idx a0.zC.Registers a1.R).bind fun x1=>(zb9 N x1).bind fun r2=>(za9 r2 100 999).bind fun r3=>cond (!r3)
  ((zh a0 true 2).bind fun r4=>some r4.2) ((zh a0 true r2).bind fun r5=>some r5.2)
def zfe.k (N:Nat):Kq:=⟨172,(ctv [.ptr Ty.zG true [],.val Ty.zA] [] [Ty.zG] [] [Ty.zG,Ty.zA] (zfe N)),go [za9.k,zh.k,zb9.k N] {pk:=[1000000]} [] Proofs.Tryz.func172⟩
def z2n:Ct U:={params:=[.val T6],results:=[Ty.str],outs:=[],fresh:=[],fn:=app U [T6] (R:=PT U [Ty.str]) (z08)}
theorem z2n.meets:zif (zpo [] [] [] [] [] [] [] []) 310 z2n:=
 zzn ⟨_,Proofs.Tryz.func310,rfl,by kernel_rfl⟩ (t:=Ty.str) rfl rfl rfl rfl fun ds y hy E0 h0 ha μ H w us hA hm hG=>by
  obtain⟨n,rfl,hx⟩:=zyr hy;unfold z08 at hx;split at hx
  · rename_i hn;cases hx;have hE:some ([.sc (.int .i64 n)],[])=some (E0,h0):=ha;cases hE;cases hA with
    | cons h1 h2=>
     cases h2;have hu:=h1.int;subst hu;have ht:=zais hG hm (g:=3) (name:= "internal/strconv.uint64pow10") (t:=Ty.int .u64) (xs:=zafx) (k:= .u64) (zs:=Lib.pow10Tab) rfl (by kernel_rfl) (fun i x hi=>⟨x,hi,rfl⟩) rfl rfl;refine⟨_,rfl,(Proofs.Tryz.strconv_Itoa n hn.1 hn.2 w ht).mono fun e w' hh=> ?_⟩;obtain⟨rfl,k,os,rfl⟩:=hh;exact⟨_,rfl,zaf9 w k os,.sc _⟩
  · cases hx
def z2n.k:Kq:=⟨310,z2n,z2n.meets⟩
def zep (a0:Number):Option (ByteArray × Int):=
 (zbl a0).bind fun r1=>cond (r1 !=0) (some ((⟨#[]⟩:ByteArray),r1))
  ((z08 (if(w6 (0-a0.N))>a0.N then(w6 (0-a0.N))else a0.N)).bind fun r2=>cond (decide ((r2.size:Int)≤a0.Scale))
  ((zow (⟨#[48]⟩:ByteArray) (w6 ((w6 (a0.Scale+1))-(r2.size:Int)))).bind fun r3=>
  if((r3.size+r2.size:Nat):Int)>IntKind.i64.max then none else cond (decide (a0.Scale>0))
  (if 0≤(w6 (((r3++r2).size:Int)-a0.Scale))∧(w6 (((r3++r2).size:Int)-a0.Scale))≤((r3++r2).size:Int)then(if 0≤(0:Int)∧(0:Int)≤(w6 (((r3++r2).size:Int)-a0.Scale))then(if((((r3++r2).extract (0:Int).toNat (w6 (((r3++r2).size:Int)-a0.Scale)).toNat).size+(⟨#[46]⟩:ByteArray).size:Nat):Int)>IntKind.i64.max then none else if 0≤(w6 (((r3++r2).size:Int)-a0.Scale))∧(w6 (((r3++r2).size:Int)-a0.Scale))≤((r3++r2).size:Int)then(if(((((r3++r2).extract (0:Int).toNat (w6 (((r3++r2).size:Int)-a0.Scale)).toNat)++(⟨#[46]⟩:ByteArray)).size+((r3++r2).extract (w6 (((r3++r2).size:Int)-a0.Scale)).toNat (r3++r2).size).size:Nat):Int)>IntKind.i64.max then none else cond (decide (a0.N<0))
  (if(((⟨#[45]⟩:ByteArray).size+((((r3++r2).extract (0:Int).toNat (w6 (((r3++r2).size:Int)-a0.Scale)).toNat)++(⟨#[46]⟩:ByteArray))++((r3++r2).extract (w6 (((r3++r2).size:Int)-a0.Scale)).toNat (r3++r2).size)).size:Nat):Int)>IntKind.i64.max then none else some (((⟨#[45]⟩:ByteArray)++((((r3++r2).extract (0:Int).toNat (w6 (((r3++r2).size:Int)-a0.Scale)).toNat)++(⟨#[46]⟩:ByteArray))++((r3++r2).extract (w6 (((r3++r2).size:Int)-a0.Scale)).toNat (r3++r2).size))),0))
  (some (((((r3++r2).extract (0:Int).toNat (w6 (((r3++r2).size:Int)-a0.Scale)).toNat)++(⟨#[46]⟩:ByteArray))++((r3++r2).extract (w6 (((r3++r2).size:Int)-a0.Scale)).toNat (r3++r2).size)),0)))else none)else none)else none)
  (cond (decide (a0.N<0)) (if(((⟨#[45]⟩:ByteArray).size+(r3++r2).size:Nat):Int)>IntKind.i64.max then none else some (((⟨#[45]⟩:ByteArray)++(r3++r2)),0))
  (some ((r3++r2),0)))) (cond (decide (a0.Scale>0))
  (if 0≤(w6 ((r2.size:Int)-a0.Scale))∧(w6 ((r2.size:Int)-a0.Scale))≤(r2.size:Int)then(if 0≤(0:Int)∧(0:Int)≤(w6 ((r2.size:Int)-a0.Scale))then(if(((r2.extract (0:Int).toNat (w6 ((r2.size:Int)-a0.Scale)).toNat).size+(⟨#[46]⟩:ByteArray).size:Nat):Int)>IntKind.i64.max then none else if 0≤(w6 ((r2.size:Int)-a0.Scale))∧(w6 ((r2.size:Int)-a0.Scale))≤(r2.size:Int)then(if((((r2.extract (0:Int).toNat (w6 ((r2.size:Int)-a0.Scale)).toNat)++(⟨#[46]⟩:ByteArray)).size+(r2.extract (w6 ((r2.size:Int)-a0.Scale)).toNat r2.size).size:Nat):Int)>IntKind.i64.max then none else cond (decide (a0.N<0))
  (if(((⟨#[45]⟩:ByteArray).size+(((r2.extract (0:Int).toNat (w6 ((r2.size:Int)-a0.Scale)).toNat)++(⟨#[46]⟩:ByteArray))++(r2.extract (w6 ((r2.size:Int)-a0.Scale)).toNat r2.size)).size:Nat):Int)>IntKind.i64.max then none else some (((⟨#[45]⟩:ByteArray)++(((r2.extract (0:Int).toNat (w6 ((r2.size:Int)-a0.Scale)).toNat)++(⟨#[46]⟩:ByteArray))++(r2.extract (w6 ((r2.size:Int)-a0.Scale)).toNat r2.size))),0))
  (some ((((r2.extract (0:Int).toNat (w6 ((r2.size:Int)-a0.Scale)).toNat)++(⟨#[46]⟩:ByteArray))++(r2.extract (w6 ((r2.size:Int)-a0.Scale)).toNat r2.size)),0)))else none)else none)else none)
  (cond (decide (a0.N<0)) (if(((⟨#[45]⟩:ByteArray).size+r2.size:Nat):Int)>IntKind.i64.max then none else some (((⟨#[45]⟩:ByteArray)++r2),0)) (some (r2,0)))))
def zep.k:Kq:=⟨249,(cvv [Ty.str,T6] [Ty.Number] zep),go [zw9.k,zbl.k,z2n.k] {lits:=[16]} [] Proofs.Tryz.func249⟩
def z2o:Ct U:={params:=[.val (Ty.sl Ty.str)],results:=[(Ty.sl Ty.str)],outs:=[],fresh:=[0],fn:=app U [(Ty.sl Ty.str)] (R:=PT U [(Ty.sl Ty.str)]) (zc6 16)}
theorem z2o.meets:zif (zpo [] [] [] [] [] [] [] []) 250 z2o:=
 zn6 zwm (zun (l:=[]) rfl all_nil) (zuf (l:=[]) rfl all_nil) (Lp:=pick []) Proofs.Tryz.func250 (by kernel_rfl) (zuq (l:=[]) rfl all_nil) (fun y=>by kernel_rfl) (e:=9) (t:=Ty.str) rfl rfl rfl rfl rfl rfl rfl (by kernel_rfl) rfl rfl rfl rfl rfl rfl (fun xs=>by kernel_rfl) fun ds y h=>by
  obtain⟨xs,rfl,hx⟩:=zyr h;refine⟨xs,rfl,fun b hb=> ?_⟩;cases b with
  | true=>
   have:=hb rfl;subst this;exact Eq.trans (by kernel_rfl) hx
  | false=>exact Eq.trans (b:=cond (Nat.ble ((0+xs.length)*16) zae) (some xs) none) (by kernel_rfl) (by rw [Nat.zero_add];exact hx)
def z2o.k:Kq:=⟨250,z2o,z2o.meets⟩
def ziv (N:Nat) (a0:zG) (a1:zA):Option zG:=
 cond (a1.Op==22) ((idx a0.zC.Registers a1.R).bind fun x1=>(zep x1).bind fun r2=>cond ((a0.zC.Lines.length:Int)==40)
  (some (⟨(⟨a0.zC.Registers,a0.zC.Condition,a0.zC.Storage,a0.zC.At,a0.zC.Stack,a0.zC.Lines,3,a0.zC.Exception,a0.zC.Marks,a0.zC.Steps⟩:zC),a0.code,a0.raised⟩:zG))
  ((zc6 16 a0.zC.Lines).bind fun r3=>cond (Nat.ble ((r3.length+([r2.1]:List ByteArray).length)*16) zae)
  (some (⟨(⟨a0.zC.Registers,a0.zC.Condition,a0.zC.Storage,a0.zC.At,a0.zC.Stack,(r3++([r2.1]:List ByteArray)),a0.zC.Status,a0.zC.Exception,a0.zC.Marks,a0.zC.Steps⟩:zC),a0.code,a0.raised⟩:zG)) none))
  (cond (a1.Op==23) ((zaf N a0 a1.Place a1.zF).bind fun r4=>cond (!r4.2.1) (some r4.2.2) (cond ((r4.2.2.zC.Lines.length:Int)==40)
  (some (⟨(⟨r4.2.2.zC.Registers,r4.2.2.zC.Condition,r4.2.2.zC.Storage,r4.2.2.zC.At,r4.2.2.zC.Stack,r4.2.2.zC.Lines,3,r4.2.2.zC.Exception,r4.2.2.zC.Marks,r4.2.2.zC.Steps⟩:zC),r4.2.2.code,r4.2.2.raised⟩:zG))
  ((zc6 16 r4.2.2.zC.Lines).bind fun r5=>cond (Nat.ble ((r5.length+([r4.1]:List ByteArray).length)*16) zae)
  (some (⟨(⟨r4.2.2.zC.Registers,r4.2.2.zC.Condition,r4.2.2.zC.Storage,r4.2.2.zC.At,r4.2.2.zC.Stack,(r5++([r4.1]:List ByteArray)),r4.2.2.zC.Status,r4.2.2.zC.Exception,r4.2.2.zC.Marks,r4.2.2.zC.Steps⟩:zC),r4.2.2.code,r4.2.2.raised⟩:zG)) none)))
  (cond ((a0.zC.Lines.length:Int)==40)
  (some (⟨(⟨a0.zC.Registers,a0.zC.Condition,a0.zC.Storage,a0.zC.At,a0.zC.Stack,a0.zC.Lines,3,a0.zC.Exception,a0.zC.Marks,a0.zC.Steps⟩:zC),a0.code,a0.raised⟩:zG))
  ((zc6 16 a0.zC.Lines).bind fun r6=>cond (Nat.ble ((r6.length+([a1.Text]:List ByteArray).length)*16) zae)
  (some (⟨(⟨a0.zC.Registers,a0.zC.Condition,a0.zC.Storage,a0.zC.At,a0.zC.Stack,(r6++([a1.Text]:List ByteArray)),a0.zC.Status,a0.zC.Exception,a0.zC.Marks,a0.zC.Steps⟩:zC),a0.code,a0.raised⟩:zG)) none)))
def ziv.k (N:Nat):Kq:=⟨173,(ctv [.ptr Ty.zG true [],.val Ty.zA] [] [Ty.zG] [] [Ty.zG,Ty.zA] (ziv N)),go [zaf.k N,zep.k,z2o.k] {lits:=[44],pk:=[1000000]} [] Proofs.Tryz.func173⟩
def zfz (a0:zG):Option zG:=
 cond (a0.zC.Marks==300)
  (some (⟨(⟨a0.zC.Registers,a0.zC.Condition,a0.zC.Storage,a0.zC.At,a0.zC.Stack,a0.zC.Lines,3,a0.zC.Exception,a0.zC.Marks,a0.zC.Steps⟩:zC),a0.code,a0.raised⟩:zG))
  (some (⟨(⟨a0.zC.Registers,a0.zC.Condition,a0.zC.Storage,a0.zC.At,a0.zC.Stack,a0.zC.Lines,a0.zC.Status,a0.zC.Exception,(w6 (a0.zC.Marks+1)),a0.zC.Steps⟩:zC),a0.code,a0.raised⟩:zG))
def zfz.k:Kq:=⟨174,(ctv [.ptr Ty.zG true []] [] [Ty.zG] [] [Ty.zG] zfz),go [] {pk:=[1000000]} [] Proofs.Tryz.func174⟩
def zxa:Ct U:={params:=[.val (Ty.sl T6)],results:=[(Ty.sl T6)],outs:=[],fresh:=[0],fn:=app U [(Ty.sl T6)] (R:=PT U [(Ty.sl T6)]) (zc6 8)}
theorem zxa.meets:zif (zpo [] [] [] [] [] [] [] []) 177 zxa:=
 zn6 zwm (zun (l:=[]) rfl all_nil) (zuf (l:=[]) rfl all_nil) (Lp:=pick []) Proofs.Tryz.func177 (by kernel_rfl) (zuq (l:=[]) rfl all_nil) (fun y=>by kernel_rfl) (e:=3) (t:=T6) rfl rfl rfl rfl rfl rfl rfl (by kernel_rfl) rfl rfl rfl rfl rfl rfl (fun xs=>by kernel_rfl) fun ds y h=>by
  obtain⟨xs,rfl,hx⟩:=zyr h;refine⟨xs,rfl,fun b hb=> ?_⟩;cases b with
  | true=>
   have:=hb rfl;subst this;exact Eq.trans (by kernel_rfl) hx
  | false=>exact Eq.trans (b:=cond (Nat.ble ((0+xs.length)*8) zae) (some xs) none) (by kernel_rfl) (by rw [Nat.zero_add];exact hx)
def zxa.k:Kq:=⟨177,zxa,zxa.meets⟩
def zf0 (a0:zG) (a1:Int):Option (Int × zG):=
 (zh a0 (decide ((a0.zC.Stack.length:Int)≥6)) 6).bind fun r1=>cond r1.1 ((zc6 8 r1.2.zC.Stack).bind fun r2=>
  cond (Nat.ble ((r2.length+([r1.2.zC.At]:List Int).length)*8) zae)
  (some (a1,(⟨(⟨r1.2.zC.Registers,r1.2.zC.Condition,r1.2.zC.Storage,r1.2.zC.At,(r2++([r1.2.zC.At]:List Int)),r1.2.zC.Lines,r1.2.zC.Status,r1.2.zC.Exception,r1.2.zC.Marks,r1.2.zC.Steps⟩:zC),r1.2.code,r1.2.raised⟩:zG))) none)
  (some (a1,r1.2))
def zf0.k:Kq:=⟨251,(ctv [.ptr Ty.zG true [],.val T6] [T6] [Ty.zG] [] [Ty.zG,T6] zf0),go [zxa.k,zh.k] {lits:=[26],pk:=[1000000]} [] Proofs.Tryz.func251⟩
def zf1 (a0:zG):Option (Int × zG):=
 cond (decide ((w6 ((a0.zC.Stack.length:Int)-1))<0))
  (some (a0.zC.At,(⟨(⟨a0.zC.Registers,a0.zC.Condition,a0.zC.Storage,a0.zC.At,a0.zC.Stack,a0.zC.Lines,1,a0.zC.Exception,a0.zC.Marks,a0.zC.Steps⟩:zC),a0.code,a0.raised⟩:zG)))
  ((idx a0.zC.Stack (w6 ((a0.zC.Stack.length:Int)-1))).bind fun x1=>
  if 0≤(w6 ((a0.zC.Stack.length:Int)-1))∧(w6 ((a0.zC.Stack.length:Int)-1))≤(a0.zC.Stack.length:Int)then(if 0≤(0:Int)∧(0:Int)≤(w6 ((a0.zC.Stack.length:Int)-1))then((zc6 8 ((a0.zC.Stack.take (w6 ((a0.zC.Stack.length:Int)-1)).toNat).drop (0:Int).toNat)).bind fun r2=>
  some ((w6 (x1+1)),(⟨(⟨a0.zC.Registers,a0.zC.Condition,a0.zC.Storage,a0.zC.At,r2,a0.zC.Lines,a0.zC.Status,a0.zC.Exception,a0.zC.Marks,a0.zC.Steps⟩:zC),a0.code,a0.raised⟩:zG)))else none)else none)
def zf1.k:Kq:=⟨252,(ctv [.ptr Ty.zG true []] [T6] [Ty.zG] [] [Ty.zG] zf1),go [zxa.k] {pk:=[1000000]} [] Proofs.Tryz.func252⟩
def zjd (N:Nat) (a0:zG) (a1:zA):Option (Int × zG):=
 cond (a1.Op==8) (some (a1.Target,a0)) (cond (a1.Op==18) ((zf0 a0 a1.Target).bind fun r1=>some (r1.1,r1.2)) (cond (a1.Op==19)
  ((zf1 a0).bind fun r2=>some (r2.1,r2.2)) (cond (a1.Op==6) (cond ((zg .i64 a0.zC.Condition a1.Mask) !=0) (some (a1.Target,a0))
  (some ((w6 (a0.zC.At+1)),a0))) (cond (a1.Op==7) ((za8 N a0 a1).bind fun r3=>cond ((zg .i64 r3 a1.Mask) !=0)
  (some (a1.Target,a0)) (some ((w6 (a0.zC.At+1)),a0))) (some ((w6 (a0.zC.At+1)),a0))))))
def zjd.k (N:Nat):Kq:=⟨175,(ctv [.ptr Ty.zG true [],.val Ty.zA] [T6] [Ty.zG] [] [Ty.zG,Ty.zA] (zjd N)),go [za8.k N,zf0.k,zf1.k] {pk:=[1000000]} [] Proofs.Tryz.func175⟩
def ze (N:Nat) (a0:zG) (a1:zA):Option (Int × zG):=
 cond (a1.Op==0) ((zcb N a0 a1.Place a1.zF).bind fun r1=>cond r1.2.1 ((zap r1.2.2 a1.R r1.1).bind fun r2=>
  some ((w6 (r2.zC.At+1)),r2)) (some ((w6 (r1.2.2.zC.At+1)),r1.2.2))) (cond (a1.Op==1)
  ((zfs N a0 a1).bind fun r3=>some ((w6 (r3.zC.At+1)),r3)) (cond (a1.Op==2) ((zap a0 a1.R a1.Number).bind fun r4=>
  some ((w6 (r4.zC.At+1)),r4)) (cond (a1.Op==3) ((idx a0.zC.Registers a1.A).bind fun x5=>(zap a0 a1.R x5).bind fun r6=>
  some ((w6 (r6.zC.At+1)),r6)) (cond (a1.Op==4) ((zhh N a0 a1).bind fun r7=>some ((w6 (r7.zC.At+1)),r7))
  (cond (a1.Op==5) ((za8 N a0 a1).bind fun r8=>
  some ((w6 (a0.zC.At+1)),(⟨(⟨a0.zC.Registers,r8,a0.zC.Storage,a0.zC.At,a0.zC.Stack,a0.zC.Lines,a0.zC.Status,a0.zC.Exception,a0.zC.Marks,a0.zC.Steps⟩:zC),a0.code,a0.raised⟩:zG)))
  ((cond (a1.Op==9) (some (a1.Op==9)) (some (a1.Op==10))).bind fun q9=>cond q9 ((zhg N a0 a1).bind fun r10=>
  some ((w6 (r10.zC.At+1)),r10)) ((cond (a1.Op==11) (some (a1.Op==11)) (some (a1.Op==12))).bind fun q11=>
  cond q11 ((zf4 N a0 a1).bind fun r12=>some ((w6 (r12.zC.At+1)),r12)) (cond (a1.Op==13)
  ((zdf a1.Text a1.Other).bind fun r13=>
  some ((w6 (a0.zC.At+1)),(⟨(⟨a0.zC.Registers,r13,a0.zC.Storage,a0.zC.At,a0.zC.Stack,a0.zC.Lines,a0.zC.Status,a0.zC.Exception,a0.zC.Marks,a0.zC.Steps⟩:zC),a0.code,a0.raised⟩:zG)))
  ((cond (a1.Op==14) (some (a1.Op==14)) (cond (a1.Op==15) (some (a1.Op==15)) (cond (a1.Op==16) (some (a1.Op==16)) (some (a1.Op==17))))).bind fun q14=>
  cond q14 ((zhs N a0 a1).bind fun r15=>some ((w6 (r15.zC.At+1)),r15)) (cond (a1.Op==20)
  ((zfe N a0 a1).bind fun r16=>some ((w6 (r16.zC.At+1)),r16)) (cond (a1.Op==21)
  ((zap a0 a1.R (⟨a0.zC.Exception,0⟩:Number)).bind fun r17=>some ((w6 (r17.zC.At+1)),r17)) ((cond (a1.Op==22)
  (some (a1.Op==22)) (cond (a1.Op==23) (some (a1.Op==23)) (some (a1.Op==24)))).bind fun q18=>cond q18 ((ziv N a0 a1).bind fun r19=>
  some ((w6 (r19.zC.At+1)),r19)) (cond (a1.Op==25) ((zfz a0).bind fun r20=>some ((w6 (r20.zC.At+1)),r20))
  (cond (a1.Op==26)
  (some ((w6 (a0.zC.At+1)),(⟨(⟨a0.zC.Registers,a0.zC.Condition,a0.zC.Storage,a0.zC.At,a0.zC.Stack,a0.zC.Lines,1,a0.zC.Exception,a0.zC.Marks,a0.zC.Steps⟩:zC),a0.code,a0.raised⟩:zG)))
  ((zjd N a0 a1).bind fun r21=>some (r21.1,r21.2))))))))))))))))
def ze.k (N:Nat):Kq:=⟨102,(ctv [.ptr Ty.zG true [],.val Ty.zA] [T6] [Ty.zG] [] [Ty.zG,Ty.zA] (ze N)),go [zcb.k N,zap.k,zfs.k N,zhh.k N,za8.k N,zhg.k N,zf4.k N,zdf.k,zhs.k N,zfe.k N,ziv.k N,zfz.k,zjd.k N] {pk:=[1000000],bj:=[71,77,94,119]} [] Proofs.Tryz.func102⟩
def zg5 (a0:zT) (a1:Int) (a2:Int):Option Bool:=
 (za9 a1 a0.From (w6 (a0.To-1))).bind fun r1=>(cond r1 ((cond (a0.Exception==0) (some true) (some (a0.Exception==a2))).bind fun g2=>some g2)
  (some false)).bind fun g3=>some g3
def zg5.k:Kq:=⟨254,(ctv [.val Ty.zT,.ptr T6 false [],.ptr T6 false []] [Ty.bool] [] [] [Ty.zT,T6,T6] zg5),go [za9.k] {ro:=[1000000,1000001],pk:=[1000000,1000001]} [] Proofs.Tryz.func254⟩
def zt.b0 (N:Nat) (s0:List zT) (s7:Int) (s8:Int) (b1000000:Int) (b1000001:Int):Option (Round Int ((List zT) × Int × Int × Int × Int)):=
 cond (decide (s8<s7)) ((idx s0 s8).bind fun x1001=>(zg5 x1001 b1000000 b1000001).bind fun r1002=>cond r1002 (some (.result s8))
  (some (.again (s0,s7,(w6 (s8+1)),b1000000,b1000001)))) (some (.leave (s0,s7,s8,b1000000,b1000001)))
def zt.r0 (N:Nat) (x:(List zT) × Int × Int × Int × Int):=zt.b0 N x.1 x.2.1 x.2.2.1 x.2.2.2.1 x.2.2.2.2
def zt (N:Nat) (a0:List zT) (a1:Int) (a2:Int):Option Int:=
 (zp (zt.r0 N) N (a0,(a0.length:Int),0,a1,a2)).bind fun z2=>zbq z2 (fun z=>some z) (fun y1=>some (-1))
def zt.k (N:Nat):Kq:=⟨253,(ctv [.val (Ty.sl Ty.zT),.clo 254 2,.ptr T6 false [],.ptr T6 false []] [T6] [] [] [(Ty.sl Ty.zT),T6,T6] (zt N)),go [zg5.k] {ro:=[1000000,1000001],pk:=[1000000,1000001]} [(0,.rets {slots:=[(0,.val (Ty.sl Ty.zT)),(1,.fn 254 [1000000,1000001]),(7,.val T6),(8,.val T6)],boxes:=[(1000000,T6,[]),(1000001,T6,[])]} [(Ty.sl Ty.zT),T6,T6,T6,T6] (zp (zt.r0 N) N))] Proofs.Tryz.func253 (hL:=⟨⟨_,_,rfl,by kernel_rfl⟩,trivial⟩)⟩
def zhn (N:Nat) (a0:zH) (a1:Int) (a2:Int):Option Int:=
 (zt N a0.zQ a1 a2).bind fun r1=>cond (decide (r1<0)) (some (-1)) ((idx a0.zQ r1).bind fun x2=>some x2.Handler)
def zhn.k (N:Nat):Kq:=⟨176,(cvv [T6] [Ty.zH,T6,T6] (zhn N)),go [zt.k N] {} [] Proofs.Tryz.func176⟩
def za6.b0 (N:Nat) (b1000000:zG):Option (Round zG zG):=
 (zhn N b1000000.code b1000000.zC.At b1000000.raised).bind fun r1001=>cond (decide (r1001≥0))
  (some (.result (⟨(⟨b1000000.zC.Registers,b1000000.zC.Condition,b1000000.zC.Storage,r1001,b1000000.zC.Stack,b1000000.zC.Lines,b1000000.zC.Status,b1000000.zC.Exception,b1000000.zC.Marks,b1000000.zC.Steps⟩:zC),b1000000.code,b1000000.raised⟩:zG)))
  (cond (decide ((w6 ((b1000000.zC.Stack.length:Int)-1))<0))
  (some (.result (⟨(⟨b1000000.zC.Registers,b1000000.zC.Condition,b1000000.zC.Storage,b1000000.zC.At,b1000000.zC.Stack,b1000000.zC.Lines,2,b1000000.zC.Exception,b1000000.zC.Marks,b1000000.zC.Steps⟩:zC),b1000000.code,b1000000.raised⟩:zG)))
  ((idx b1000000.zC.Stack (w6 ((b1000000.zC.Stack.length:Int)-1))).bind fun x1002=>
  if 0≤(w6 ((b1000000.zC.Stack.length:Int)-1))∧(w6 ((b1000000.zC.Stack.length:Int)-1))≤(b1000000.zC.Stack.length:Int)then(if 0≤(0:Int)∧(0:Int)≤(w6 ((b1000000.zC.Stack.length:Int)-1))then((zc6 8 ((b1000000.zC.Stack.take (w6 ((b1000000.zC.Stack.length:Int)-1)).toNat).drop (0:Int).toNat)).bind fun r1003=>
  some (.again (⟨(⟨b1000000.zC.Registers,b1000000.zC.Condition,b1000000.zC.Storage,x1002,r1003,b1000000.zC.Lines,b1000000.zC.Status,b1000000.zC.Exception,b1000000.zC.Marks,b1000000.zC.Steps⟩:zC),b1000000.code,b1000000.raised⟩:zG)))else none)else none))
def za6.r0 (N:Nat) (x:zG):=za6.b0 N x
def za6 (N:Nat) (a0:zG):Option zG:=
 (zp (za6.r0 N) N (⟨(⟨a0.zC.Registers,a0.zC.Condition,a0.zC.Storage,a0.zC.At,a0.zC.Stack,a0.zC.Lines,a0.zC.Status,a0.raised,a0.zC.Marks,a0.zC.Steps⟩:zC),a0.code,a0.raised⟩:zG)).bind fun z2=>
  zbq z2 (fun z=>some z) (fun y1=>some y1)
def za6.k (N:Nat):Kq:=⟨103,(ctv [.ptr Ty.zG true []] [] [Ty.zG] [] [Ty.zG] (za6 N)),go [zhn.k N,zxa.k] {pk:=[1000000]} [(0,.rets {slots:=[(0,.ptr 1000000 0)],boxes:=[(1000000,Ty.zG,[])]} [Ty.zG] (zp (za6.r0 N) N))] Proofs.Tryz.func103 (hL:=⟨⟨_,_,rfl,by kernel_rfl⟩,trivial⟩)⟩
def zkv (N:Nat) (a0:zH) (a1:zC):Option zC:=
 (idx a0.zB a1.At).bind fun x1=>
  (ze N (⟨{a1 with Steps:=(w6 (a1.Steps+1))},a0,0⟩:zG) x1).bind fun r2=>
  cond (r2.2.raised !=0) ((za6 N r2.2).bind fun r3=>(cond (r3.zC.Status==0) (some (r3.zC.Steps==3000)) (some false)).bind fun g4=>
  cond g4 (some (⟨r3.zC.Registers,r3.zC.Condition,r3.zC.Storage,r3.zC.At,r3.zC.Stack,r3.zC.Lines,3,r3.zC.Exception,r3.zC.Marks,r3.zC.Steps⟩:zC))
  (some r3.zC)) (cond (r2.2.zC.Status !=0) ((cond (r2.2.zC.Status==0) (some (r2.2.zC.Steps==3000)) (some false)).bind fun g5=>
  cond g5 (some (⟨r2.2.zC.Registers,r2.2.zC.Condition,r2.2.zC.Storage,r2.2.zC.At,r2.2.zC.Stack,r2.2.zC.Lines,3,r2.2.zC.Exception,r2.2.zC.Marks,r2.2.zC.Steps⟩:zC))
  (some r2.2.zC)) (cond (r2.1==(a0.zB.length:Int))
  (some (⟨r2.2.zC.Registers,r2.2.zC.Condition,r2.2.zC.Storage,r2.2.zC.At,r2.2.zC.Stack,r2.2.zC.Lines,1,r2.2.zC.Exception,r2.2.zC.Marks,r2.2.zC.Steps⟩:zC))
  ((cond (r2.2.zC.Status==0) (some (r2.2.zC.Steps==3000)) (some false)).bind fun g6=>
  cond g6 (some (⟨r2.2.zC.Registers,r2.2.zC.Condition,r2.2.zC.Storage,r2.1,r2.2.zC.Stack,r2.2.zC.Lines,3,r2.2.zC.Exception,r2.2.zC.Marks,r2.2.zC.Steps⟩:zC))
  (some (⟨r2.2.zC.Registers,r2.2.zC.Condition,r2.2.zC.Storage,r2.1,r2.2.zC.Stack,r2.2.zC.Lines,r2.2.zC.Status,r2.2.zC.Exception,r2.2.zC.Marks,r2.2.zC.Steps⟩:zC)))))
def zkv.k (N:Nat):Kq:=⟨53,(cvv [Ty.zC] [Ty.zH,Ty.zC] (zkv N)),go [ze.k N,za6.k N] {} [] Proofs.Tryz.func53⟩
def zdo.b0 (N:Nat) (b3:zH) (b4:zY) (b6:zC):Option (Stp (zH × zY × zC)):=
 cond (b6.Status==0) ((zkv N b3 b6).bind fun r1001=>some (.again (b3,b4,r1001))) (some (.leave (b3,b4,b6)))
def zdo.r0 (N:Nat) (x:zH × zY × zC):=zdo.b0 N x.1 x.2.1 x.2.2
def zdo (N:Nat) (a0:zK) (a1:zH):Option (zY × Int):=
 (zj3 N a0 a1).bind fun r1=>cond (r1.2 !=0) (some ((⟨[],0,0,0,0,(⟨(⟨#[]⟩:ByteArray),[]⟩:Storage)⟩:zY),r1.2))
  ((zi (zdo.r0 N) N (a1,(⟨[],0,0,0,0,(⟨(⟨#[]⟩:ByteArray),[]⟩:Storage)⟩:zY),r1.1)).bind fun y2=>
  some ((⟨y2.2.2.Lines,y2.2.2.Status,y2.2.2.Exception,y2.2.2.Marks,y2.2.2.Steps,y2.2.2.Storage⟩:zY),0))
def zdo.k (N:Nat):Kq:=⟨21,(cvv [Ty.zY,T6] [Ty.zK,Ty.zH] (zdo N)),go [zj3.k N,zkv.k N] {} [(0,.plain {slots:=[(3,.ptr 3 0),(4,.ptr 4 0),(6,.ptr 6 0)],boxes:=[(3,Ty.zH,[]),(4,Ty.zY,[0,6]),(6,Ty.zC,[])]} [Ty.zH,Ty.zY,Ty.zC] (zi (zdo.r0 N) N))] Proofs.Tryz.func21 (hL:=⟨⟨_,_,rfl,by kernel_rfl⟩,trivial⟩)⟩
def zgb (a0:zY):Option zY:=
 some (⟨a0.Lines,a0.Status,a0.Exception,a0.Marks,0,a0.Storage⟩:zY)
def zgb.k:Kq:=⟨23,(cvv [Ty.zY] [Ty.zY] zgb),go [] {} [] Proofs.Tryz.func23⟩
def zdz.b0 (N:Nat) (s0:List ByteArray) (s1:List ByteArray) (s5:Int):Option (Round Bool ((List ByteArray) × (List ByteArray) × Int)):=
 cond (decide (s5<(s0.length:Int))) ((idx s0 s5).bind fun x1001=>(idx s1 s5).bind fun x1002=>cond (!(x1001.toList==x1002.toList)) (some (.result false))
  (some (.again (s0,s1,(w6 (s5+1)))))) (some (.leave (s0,s1,s5)))
def zdz.r0 (N:Nat) (x:(List ByteArray) × (List ByteArray) × Int):=zdz.b0 N x.1 x.2.1 x.2.2
def zdz (N:Nat) (a0:List ByteArray) (a1:List ByteArray):Option Bool:=
 cond ((a0.length:Int) !=(a1.length:Int)) (some false) ((zp (zdz.r0 N) N (a0,a1,0)).bind fun z2=>zbq z2 (fun z=>some z) (fun y1=>some true))
def zdz.k (N:Nat):Kq:=⟨54,(cvv [Ty.bool] [(Ty.sl Ty.str),(Ty.sl Ty.str)] (zdz N)),go [] {} [(0,.rets {slots:=[(0,.val (Ty.sl Ty.str)),(1,.val (Ty.sl Ty.str)),(5,.val T6)],boxes:=[]} [(Ty.sl Ty.str),(Ty.sl Ty.str),T6] (zp (zdz.r0 N) N))] Proofs.Tryz.func54 (hL:=⟨⟨_,_,rfl,by kernel_rfl⟩,trivial⟩)⟩
def ze3.b0 (N:Nat) (s0:List Bool) (s1:List Bool) (s5:Int):Option (Round Bool ((List Bool) × (List Bool) × Int)):=
 cond (decide (s5<(s0.length:Int))) ((idx s0 s5).bind fun x1001=>(idx s1 s5).bind fun x1002=>cond (!(x1001==x1002)) (some (.result false))
  (some (.again (s0,s1,(w6 (s5+1)))))) (some (.leave (s0,s1,s5)))
def ze3.r0 (N:Nat) (x:(List Bool) × (List Bool) × Int):=ze3.b0 N x.1 x.2.1 x.2.2
def ze3 (N:Nat) (a0:List Bool) (a1:List Bool):Option Bool:=
 cond ((a0.length:Int) !=(a1.length:Int)) (some false) ((zp (ze3.r0 N) N (a0,a1,0)).bind fun z2=>zbq z2 (fun z=>some z) (fun y1=>some true))
def ze3.k (N:Nat):Kq:=⟨104,(cvv [Ty.bool] [(Ty.sl Ty.bool),(Ty.sl Ty.bool)] (ze3 N)),go [] {} [(0,.rets {slots:=[(0,.val (Ty.sl Ty.bool)),(1,.val (Ty.sl Ty.bool)),(5,.val T6)],boxes:=[]} [(Ty.sl Ty.bool),(Ty.sl Ty.bool),T6] (zp (ze3.r0 N) N))] Proofs.Tryz.func104 (hL:=⟨⟨_,_,rfl,by kernel_rfl⟩,trivial⟩)⟩
def zir (N:Nat) (a0:Storage) (a1:Storage):Option Bool:=
 (cond (a0.Bytes.toList==a1.Bytes.toList) ((ze3 N a0.Tags a1.Tags).bind fun r1=>some r1) (some false)).bind fun g2=>some g2
def zir.k (N:Nat):Kq:=⟨55,(cvv [Ty.bool] [Ty.Storage,Ty.Storage] (zir N)),go [ze3.k N] {} [] Proofs.Tryz.func55⟩
def zhj (N:Nat) (a0:zY) (a1:zY):Option Bool:=
 (zdz N a0.Lines a1.Lines).bind fun r1=>(cond r1 (some (a0.Status==a1.Status)) (some false)).bind fun g2=>(cond g2 (some (a0.Exception==a1.Exception))
  (some false)).bind fun g3=>(cond g3 (some (a0.Marks==a1.Marks)) (some false)).bind fun g4=>(cond g4 (some (a0.Steps==a1.Steps)) (some false)).bind fun g5=>
  (cond g5 ((zir N a0.Storage a1.Storage).bind fun r6=>some r6) (some false)).bind fun g7=>some g7
def zhj.k (N:Nat):Kq:=⟨22,(cvv [Ty.bool] [Ty.zY,Ty.zY] (zhj N)),go [zdz.k N,zir.k N] {} [] Proofs.Tryz.func22⟩
def zg3 (N:Nat) (a0:Optimization):Option Bool:=
 (zn7 N).bind fun r1=>cond (!r1) (some false) ((zfy N a0).bind fun r2=>cond (!r2) (some true) ((zfx N a0).bind fun r3=>
  (zac N r3).bind fun r4=>cond (r4.2 !=0) (some true) ((zgg a0.Before).bind fun r5=>(zdo N a0.Model r5).bind fun r6=>
  (zgg a0.After).bind fun r7=>(zdo N a0.Model r7).bind fun r8=>(cond (r6.2 !=0) (some true) (some (r8.2 !=0))).bind fun g9=>cond g9 (some false)
  ((cond (r6.1.Steps==3000) (some true) (some (r8.1.Steps==3000))).bind fun g10=>cond g10 (some true) ((cond (decide (r8.1.Steps≤r6.1.Steps))
  ((zgb r6.1).bind fun r11=>(zgb r8.1).bind fun r12=>(zhj N r11 r12).bind fun r13=>some r13) (some false)).bind fun g14=>
  some g14)))))
def zg3.k (N:Nat):Kq:=⟨4,(cvv [Ty.bool] [Ty.Optimization] (zg3 N)),go [zn7.k N,zgg.k,zfy.k N,zac.k N,zfx.k N,zdo.k N,zhj.k N,zgb.k] {lits:=[16,27,36,61,63]} [] Proofs.Tryz.func4⟩
end
end Go.Proofs.YtbmfjmakahmclaaGreatDoor.M
