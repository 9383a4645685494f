/- What the program's functions compute, each tied to its code: part 1. -/
import Derived.Test.YtbmfjmakahmclaaGreatDoorF0
namespace Go.Proofs.YtbmfjmakahmclaaGreatDoor.M
open Go Go.Amx
set_option linter.unusedVariables false
set_option maxRecDepth 100000
noncomputable section
def zak.r2 (N:Nat) (x:(List zS) × Int × Int × zP × zZ):=zak.b2 N x.1 x.2.1 x.2.2.1 x.2.2.2.1 x.2.2.2.2
def zak.b4 (N:Nat) (s87:List zX) (s88:Int) (s89:Int) (b1:zP) (b2:zZ):Option (Round (zZ × Int) ((List zX) × Int × Int × zP × zZ)):=
 cond (decide (s89<s88)) ((idx s87 s89).bind fun x5001=>(zk4 b1 x5001).bind fun r5002=>cond (r5002 !=0) (some (.result ((⟨3,s89⟩:zZ),r5002)))
  (some (.again (s87,s88,(w6 (s89+1)),b1,b2)))) (some (.leave (s87,s88,s89,b1,b2)))
def zak.r4 (N:Nat) (x:(List zX) × Int × Int × zP × zZ):=zak.b4 N x.1 x.2.1 x.2.2.1 x.2.2.2.1 x.2.2.2.2
def zak (N:Nat) (a0:zP):Option (zZ × Int):=
 (cond (decide ((a0.zW.length:Int)>24)) (some true) (some (decide ((a0.zB.length:Int)>40)))).bind fun g1=>(cond g1 (some true)
  (some (decide ((a0.yJ.length:Int)>6)))).bind fun g2=>(zcw g2 2).bind fun r3=>(zcw ((a0.zB.length:Int)==0) 1).bind fun r4=>
  (zd8 N ([r3,r4]:List Int)).bind fun r5=>cond (r5 !=0) (some ((⟨0,0⟩:zZ),r5))
  ((zp (zak.r0 N) N ((a0.zW.length:Int),0,a0,(⟨0,0⟩:zZ))).bind fun z7=>zbq z7 (fun z=>some z) (fun y6=>
  (zbe N y6.2.2.1.zW).bind fun r8=>cond (decide (r8.2>24)) (some ((⟨0,0⟩:zZ),30))
  ((zp (zak.r2 N) N (y6.2.2.1.zB,(y6.2.2.1.zB.length:Int),0,y6.2.2.1,y6.2.2.2)).bind fun z10=>zbq z10 (fun z=>some z) (fun y9=>
  (zp (zak.r4 N) N (y9.2.2.2.1.yJ,(y9.2.2.2.1.yJ.length:Int),0,y9.2.2.2.1,y9.2.2.2.2)).bind fun z12=>zbq z12 (fun z=>some z) (fun y11=>
  some ((⟨0,0⟩:zZ),0))))))
def zak.k (N:Nat):Kq:=⟨105,(cvv [Ty.zZ,T6] [Ty.zP] (zak N)),go [zbe.k N,zd8.k N,zcw.k,zk3.k N,zdl.k N,zk4.k] {lits:=[33,38,39]} [(0,.rets {slots:=[(1,.ptr 1 0),(2,.ptr 2 0),(47,.val T6),(48,.val T6)],boxes:=[(1,Ty.zP,[]),(2,Ty.zZ,[])]} [T6,T6,Ty.zP,Ty.zZ] (zp (zak.r0 N) N)),(2,.rets {slots:=[(1,.ptr 1 0),(2,.ptr 2 0),(70,.val (Ty.sl Ty.zS)),(71,.val T6),(72,.val T6)],boxes:=[(1,Ty.zP,[]),(2,Ty.zZ,[])]} [(Ty.sl Ty.zS),T6,T6,Ty.zP,Ty.zZ] (zp (zak.r2 N) N)),(4,.rets {slots:=[(1,.ptr 1 0),(2,.ptr 2 0),(87,.val (Ty.sl Ty.zX)),(88,.val T6),(89,.val T6)],boxes:=[(1,Ty.zP,[]),(2,Ty.zZ,[])]} [(Ty.sl Ty.zX),T6,T6,Ty.zP,Ty.zZ] (zp (zak.r4 N) N))] Proofs.Tryz.func105 (hL:=⟨⟨_,_,rfl,by kernel_rfl⟩,⟨_,_,rfl,by kernel_rfl⟩,⟨_,_,rfl,by kernel_rfl⟩,trivial⟩)⟩
def zji (N:Nat) (a0:zP):Option Int:=
 (zak N a0).bind fun r1=>some r1.2
def zji.k (N:Nat):Kq:=⟨62,(cvv [T6] [Ty.zP] (zji N)),go [zak.k N] {} [] Proofs.Tryz.func62⟩
def zbo.b0 (N:Nat) (s5:List Int) (s6:Int) (s7:Int):Option (Round Int ((List Int) × Int × Int)):=
 cond (decide (s7<s6)) ((idx s5 s7).bind fun x1001=>cond (x1001 !=0) (some (.result x1001)) (some (.again (s5,s6,(w6 (s7+1)))))) (some (.leave (s5,s6,s7)))
def zbo.r0 (N:Nat) (x:(List Int) × Int × Int):=zbo.b0 N x.1 x.2.1 x.2.2
def zbo (N:Nat) (a0:List Int):Option Int:=
 (zp (zbo.r0 N) N (a0,(a0.length:Int),0)).bind fun z2=>zbq z2 (fun z=>some z) (fun y1=>some 0)
def zbo.k (N:Nat):Kq:=⟨44,(cvv [T6] [(Ty.sl T6)] (zbo N)),go [] {} [(0,.rets {slots:=[(5,.val (Ty.sl T6)),(6,.val T6),(7,.val T6)],boxes:=[]} [(Ty.sl T6),T6,T6] (zp (zbo.r0 N) N))] Proofs.Tryz.func44 (hL:=⟨⟨_,_,rfl,by kernel_rfl⟩,trivial⟩)⟩
def zho (N:Nat) (a0:zP):Option Int:=
 (zak N a0).bind fun r1=>some r1.2
def zho.k (N:Nat):Kq:=⟨108,(cvv [T6] [Ty.zP] (zho N)),go [zak.k N] {} [] Proofs.Tryz.func108⟩
def znu (N:Nat) (a0:zP):Option ((List Int) × Int × Int):=
 (zho N a0).bind fun r1=>cond (r1 !=0) (some ([],0,r1)) ((zbe N a0.zW).bind fun r2=>some (r2.1,r2.2,0))
def znu.k (N:Nat):Kq:=⟨64,(cvv [(Ty.sl T6),T6,T6] [Ty.zP] (znu N)),go [zho.k N,zbe.k N] {} [] Proofs.Tryz.func64⟩
def zw9:Ct U:={params:=[.val Ty.str,.val T6],results:=[Ty.str],outs:=[],fresh:=[],fn:=app U [Ty.str,T6] (R:=PT U [Ty.str]) (zow)}
theorem zw9.meets:zif (zpo [] [] [] [] [] [] [] []) 187 zw9:=
 zzn ⟨_,Proofs.Tryz.func187,rfl,by kernel_rfl⟩ (t:=Ty.str) rfl rfl rfl rfl fun ds y hy E0 h0 ha μ H w us hA hm hG=>by
  obtain⟨s,n,rfl,hx⟩:=app2 hy;unfold zow at hx;split at hx
  · rename_i hn;cases hx;have hE:some ([.sc (.string s),.sc (.int .i64 n)],[])=some (E0,h0):=ha;cases hE;cases hA with
    | cons h1 h2=>
     cases h2 with
     | cons h2 h3=>
      cases h3;have hu:=h1.int;have hu2:=h2.int;subst hu hu2;refine⟨_,rfl,?_⟩;have hc:=Proofs.Tryz.strings_Repeat s n.toNat w (by omega) hn.2.2;have he:((n.toNat:Nat):Int)=n:=by omega
      rw [he]at hc;exact hc.mono fun e w' hh=>⟨_,hh.1,z8h hh.2,.sc _⟩
  · cases hx
def zw9.k:Kq:=⟨187,zw9,zw9.meets⟩
def zlo (a0:Int):Option (Storage × Int):=
 (zfk a0 0 64).bind fun r1=>cond (!r1) (some ((⟨(⟨#[]⟩:ByteArray),[]⟩:Storage),3)) ((zow (⟨#[0]⟩:ByteArray) (w6 (a0*16))).bind fun r2=>
  if 0≤a0 then(if a0≤a0 then(cond (Nat.ble (a0.toNat*1) zae) (some ((⟨r2,(List.replicate a0.toNat (false:Bool))⟩:Storage),0)) none)else none)else none)
def zlo.k:Kq:=⟨110,(cvv [Ty.Storage,T6] [T6] zlo),go [zfk.k,zw9.k] {} [] Proofs.Tryz.func110⟩
def zc2.b0 (N:Nat) (s0:Int) (s5:List Int) (s6:Int):Option (Stp (Int × (List Int) × Int)):=
 cond (decide (s6≥0)) (if 0≤s6 then(if s6<(s5.length:Int)then((s5[s6.toNat]?).bind fun x1001=>
  some (.again ((w6 (s0.tdiv 10)),(s5.set s6.toNat (IntKind.wrap .u8 (s0.tmod 10))),(w6 (s6-1)))))else none)else none)
  (some (.leave (s0,s5,s6)))
def zc2.r0 (N:Nat) (x:Int × (List Int) × Int):=zc2.b0 N x.1 x.2.1 x.2.2
def zc2 (N:Nat) (a0:Int) (a1:Int):Option ((List Int)):=
 if 0≤a1 then(if a1≤a1 then(cond (Nat.ble (a1.toNat*1) zae)
  ((zi (zc2.r0 N) N (a0,(List.replicate a1.toNat (0:Int)),(w6 (a1-1)))).bind fun y1=>some y1.2.1) none)else none)else none
def zc2.k (N:Nat):Kq:=⟨270,(ctv [.val T6,.val T6] [(Ty.sl (Ty.int .u8))] [] [0] [T6,T6] (zc2 N)),go [] {} [(0,.plain {slots:=[(0,.val T6),(5,.own 5000005 (Ty.int .u8)),(6,.val T6)],boxes:=[]} [T6,(Ty.sl (Ty.int .u8)),T6] (zi (zc2.r0 N) N))] Proofs.Tryz.func270 (hL:=⟨⟨_,_,rfl,by kernel_rfl⟩,trivial⟩)⟩
def zb8.b0 (N:Nat) (s0:List Int) (s3:List Int) (s4:Int):Option (Stp ((List Int) × (List Int) × Int)):=
 cond (decide (s4<(s0.length:Int))) ((idx s0 s4).bind fun x1001=>(idx s0 (w6 (s4+1))).bind fun x1002=>
  cond (Nat.ble ((s3.length+([(orI .u8 (IntKind.wrap .u8 (x1001*2^(min (4:Int).toNat 8))) x1002)]:List Int).length)*1) zae)
  (some (.again (s0,(s3++([(orI .u8 (IntKind.wrap .u8 (x1001*2^(min (4:Int).toNat 8))) x1002)]:List Int)),(w6 (s4+2))))) none)
  (some (.leave (s0,s3,s4)))
def zb8.r0 (N:Nat) (x:(List Int) × (List Int) × Int):=zb8.b0 N x.1 x.2.1 x.2.2
def zb8 (N:Nat) (a0:List Int):Option ByteArray:=
 (zi (zb8.r0 N) N (a0,[],0)).bind fun y1=>some (zhq y1.2.1)
def zb8.k (N:Nat):Kq:=⟨271,(cvv [Ty.str] [(Ty.sl (Ty.int .u8))] (zb8 N)),go [] {lits:=[23]} [(0,.plain {slots:=[(0,.val (Ty.sl (Ty.int .u8))),(3,.own 5000003 (Ty.int .u8)),(4,.val T6)],boxes:=[]} [(Ty.sl (Ty.int .u8)),(Ty.sl (Ty.int .u8)),T6] (zi (zb8.r0 N) N))] Proofs.Tryz.func271 (hL:=⟨⟨_,_,rfl,by kernel_rfl⟩,trivial⟩)⟩
def zas.b1 (N:Nat) (s5:List Int) (s25:Int) (s26:Int) (b3:Value):Option (Stp ((List Int) × Int × Int × Value)):=
 cond (decide (s26<s25)) (if 0≤s26 then(if s26<(s5.length:Int)then((s5[s26.toNat]?).bind fun x2001=>
  if 0≤s26 then(if s26<(s5.length:Int)then((s5[s26.toNat]?).bind fun x2002=>
  some (.again ((s5.set s26.toNat (IntKind.wrap .u8 (x2001+240))),s25,(w6 (s26+1)),b3)))else none)else none)else none)else none)
  (some (.leave (s5,s25,s26,b3)))
def zas.r1 (N:Nat) (x:(List Int) × Int × Int × Value):=zas.b1 N x.1 x.2.1 x.2.2.1 x.2.2.2
def zas.b3 (N:Nat) (s8:List Int) (s9:Int) (s10:Int):Option (Stp ((List Int) × Int × Int)):=
 cond (decide (s9≥0)) (if 0≤s9 then(if s9<(s8.length:Int)then((s8[s9.toNat]?).bind fun x4001=>
  some (.again ((s8.set s9.toNat (IntKind.wrap .u8 s10)),(w6 (s9-1)),(s10.fdiv (2^(min (8:Int).toNat 64))))))else none)else none)
  (some (.leave (s8,s9,s10)))
def zas.r3 (N:Nat) (x:(List Int) × Int × Int):=zas.b3 N x.1 x.2.1 x.2.2
def zas (N:Nat) (a0:DataType) (a1:Value):Option ByteArray:=
 (zc2 N (if(w6 (0-a1.N))>a1.N then(w6 (0-a1.N))else a1.N) a0.Length).bind fun r1=>cond (a0.Kind==2)
  ((zi (zas.r1 N) N (r1,(r1.length:Int),0,a1)).bind fun y2=>cond (decide (y2.2.2.2.N<0))
  (if 0≤(w6 ((y2.1.length:Int)-1))then(if(w6 ((y2.1.length:Int)-1))<(y2.1.length:Int)then((y2.1[(w6 ((y2.1.length:Int)-1)).toNat]?).bind fun x3=>
  if 0≤(w6 ((y2.1.length:Int)-1))then(if(w6 ((y2.1.length:Int)-1))<(y2.1.length:Int)then((y2.1[(w6 ((y2.1.length:Int)-1)).toNat]?).bind fun x4=>
  some (zhq (y2.1.set ((w6 ((y2.1.length:Int)-1)).toNat) (IntKind.wrap .u8 (x3-32)))))else none)else none)else none)else none) (some (zhq y2.1)))
  (cond (a0.Kind==1) (cond (decide (a1.N<0)) (cond (((r1.length:Int).tmod 2)==0) (cond (Nat.ble ((([0]:List Int).length+r1.length)*1) zae)
  (cond (Nat.ble (((([0]:List Int)++r1).length+([13]:List Int).length)*1) zae) ((zb8 N ((([0]:List Int)++r1)++([13]:List Int))).bind fun r5=>
  some r5) none) none) (cond (Nat.ble ((r1.length+([13]:List Int).length)*1) zae) ((zb8 N (r1++([13]:List Int))).bind fun r6=>some r6) none))
  (cond (((r1.length:Int).tmod 2)==0) (cond (Nat.ble ((([0]:List Int).length+r1.length)*1) zae)
  (cond (Nat.ble (((([0]:List Int)++r1).length+([15]:List Int).length)*1) zae) ((zb8 N ((([0]:List Int)++r1)++([15]:List Int))).bind fun r7=>
  some r7) none) none) (cond (Nat.ble ((r1.length+([15]:List Int).length)*1) zae) ((zb8 N (r1++([15]:List Int))).bind fun r8=>some r8) none)))
  (cond (a0.Kind==3) ((zg9 a0).bind fun r9=>if 0≤r9 then(if r9≤r9 then(cond (Nat.ble (r9.toNat*1) zae)
  ((zi (zas.r3 N) N ((List.replicate r9.toNat (0:Int)),(w6 (((List.replicate r9.toNat (0:Int)).length:Int)-1)),a1.N)).bind fun y10=>
  some (zhq y10.1)) none)else none)else none) (some a1.S)))
def zas.k (N:Nat):Kq:=⟨189,(cvv [Ty.str] [Ty.DataType,Ty.Value] (zas N)),go [zc2.k N,zb8.k N,zg9.k] {lits:=[16,63,64]} [(1,.plain {slots:=[(3,.ptr 3 0),(5,.own 5000005 (Ty.int .u8)),(25,.val T6),(26,.val T6)],boxes:=[(3,Ty.Value,[])]} [(Ty.sl (Ty.int .u8)),T6,T6,Ty.Value] (zi (zas.r1 N) N)),(3,.plain {slots:=[(8,.own 5000008 (Ty.int .u8)),(9,.val T6),(10,.val T6)],boxes:=[]} [(Ty.sl (Ty.int .u8)),T6,T6] (zi (zas.r3 N) N))] Proofs.Tryz.func189 (hL:=⟨⟨_,_,rfl,by kernel_rfl⟩,⟨_,_,rfl,by kernel_rfl⟩,trivial⟩)⟩
def zgk (N:Nat) (a0:DataType) (a1:Value):Option (ByteArray × Int):=
 (zc9 N a0 a1).bind fun r1=>cond (r1 !=0) (some ((⟨#[]⟩:ByteArray),r1)) ((zas N a0 a1).bind fun r2=>some (r2,0))
def zgk.k (N:Nat):Kq:=⟨111,(cvv [Ty.str,T6] [Ty.DataType,Ty.Value] (zgk N)),go [zc9.k N,zas.k N] {} [] Proofs.Tryz.func111⟩
def zmk (N:Nat) (a0:Storage) (a1:Int) (a2:Int):Option Int:=
 (zq N a0).bind fun r1=>cond (r1.2 !=0) (some r1.2) ((cond (decide (a1<0)) (some true) (some (decide (a2<0)))).bind fun g2=>(cond g2 (some true)
  (some (decide (a1>(a0.Bytes.size:Int))))).bind fun g3=>(cond g3 (some true) (some (decide (a2>(w6 ((a0.Bytes.size:Int)-a1)))))).bind fun g4=>
  cond g4 (some 3) (some 0))
def zmk.k (N:Nat):Kq:=⟨190,(cvv [T6] [Ty.Storage,T6,T6] (zmk N)),go [zq.k N] {} [] Proofs.Tryz.func190⟩
def zkz (a0:Storage) (a1:Int) (a2:ByteArray):Option Storage:=
 if 0≤a1∧a1≤(a0.Bytes.size:Int)then(if 0≤(0:Int)∧(0:Int)≤a1 then(if(((a0.Bytes.extract (0:Int).toNat a1.toNat).size+a2.size:Nat):Int)>IntKind.i64.max then none else if 0≤(w6 (a1+(a2.size:Int)))∧(w6 (a1+(a2.size:Int)))≤(a0.Bytes.size:Int)then(if((((a0.Bytes.extract (0:Int).toNat a1.toNat)++a2).size+(a0.Bytes.extract (w6 (a1+(a2.size:Int))).toNat a0.Bytes.size).size:Nat):Int)>IntKind.i64.max then none else(zc6 1 a0.Tags).bind fun r1=>
  cond (!(a2.toList==(⟨#[]⟩:ByteArray).toList))
  (if 0≤(w6 ((w6 ((w6 ((w6 (a1+(a2.size:Int)))-1)).tdiv 16))+1))∧(w6 ((w6 ((w6 ((w6 (a1+(a2.size:Int)))-1)).tdiv 16))+1))≤(r1.length:Int)then(if 0≤(w6 (a1.tdiv 16))∧(w6 (a1.tdiv 16))≤(w6 ((w6 ((w6 ((w6 (a1+(a2.size:Int)))-1)).tdiv 16))+1))then(some (⟨(((a0.Bytes.extract (0:Int).toNat a1.toNat)++a2)++(a0.Bytes.extract (w6 (a1+(a2.size:Int))).toNat a0.Bytes.size)),(r1.take ((w6 (a1.tdiv 16)).toNat)++List.replicate ((w6 ((w6 ((w6 ((w6 (a1+(a2.size:Int)))-1)).tdiv 16))+1)).toNat-(w6 (a1.tdiv 16)).toNat)
  (false:Bool)++r1.drop ((w6 (a1.tdiv 16)).toNat+((w6 ((w6 ((w6 ((w6 (a1+(a2.size:Int)))-1)).tdiv 16))+1)).toNat-(w6 (a1.tdiv 16)).toNat)))⟩:Storage))else none)else none)
  (some (⟨(((a0.Bytes.extract (0:Int).toNat a1.toNat)++a2)++(a0.Bytes.extract (w6 (a1+(a2.size:Int))).toNat a0.Bytes.size)),r1⟩:Storage)))else none)else none)else none
def zkz.k:Kq:=⟨191,(ctv [.val Ty.Storage,.val T6,.val Ty.str] [Ty.Storage] [] [1] [Ty.Storage,T6,Ty.str] zkz),go [x58.k] {} [] Proofs.Tryz.func191⟩
def ze0 (N:Nat) (a0:Storage) (a1:Int) (a2:ByteArray):Option (Storage × Int):=
 (zmk N a0 a1 (a2.size:Int)).bind fun r1=>cond (r1 !=0) (some ((⟨(⟨#[]⟩:ByteArray),[]⟩:Storage),r1)) ((zkz a0 a1 a2).bind fun r2=>some (r2,0))
def ze0.k (N:Nat):Kq:=⟨112,(cvv [Ty.Storage,T6] [Ty.Storage,T6,Ty.str] (ze0 N)),go [zmk.k N,zkz.k] {lits:=[12]} [] Proofs.Tryz.func112⟩
def zdm.b0 (N:Nat) (s5:List Int) (s8:Int) (s31:List zL) (s32:Int) (s33:Int) (b2:Storage) (b7:Storage):Option (Round (Storage × Int) ((List Int) × Int × (List zL) × Int × Int × Storage × Storage)):=
 cond (decide (s33<s32)) ((idx s31 s33).bind fun x1001=>(cond (x1001.Kind !=0) (some true) (some (s8 !=0))).bind fun g1002=>
  cond g1002 (some (.again (s5,s8,s31,s32,(w6 (s33+1)),b2,b7))) ((zgk N x1001.zF x1001.Value).bind fun r1003=>cond (r1003.2 !=0)
  (some (.result ((⟨(⟨#[]⟩:ByteArray),[]⟩:Storage),r1003.2))) ((idx s5 s33).bind fun x1004=>(ze0 N b7 x1004 r1003.1).bind fun r1005=>
  some (.again (s5,r1005.2,s31,s32,(w6 (s33+1)),b2,r1005.1))))) (some (.leave (s5,s8,s31,s32,s33,b2,b7)))
def zdm.r0 (N:Nat) (x:(List Int) × Int × (List zL) × Int × Int × Storage × Storage):=zdm.b0 N x.1 x.2.1 x.2.2.1 x.2.2.2.1 x.2.2.2.2.1 x.2.2.2.2.2.1 x.2.2.2.2.2.2
def zdm (N:Nat) (a0:zP):Option (Storage × Int):=
 (zho N a0).bind fun r1=>cond (r1 !=0) (some ((⟨(⟨#[]⟩:ByteArray),[]⟩:Storage),r1)) ((zbe N a0.zW).bind fun r2=>
  (zlo r2.2).bind fun r3=>
  (zp (zdm.r0 N) N (r2.1,r3.2,a0.zW,(a0.zW.length:Int),0,(⟨(⟨#[]⟩:ByteArray),[]⟩:Storage),r3.1)).bind fun z5=>zbq z5 (fun z=>
  some z) (fun y4=>some (y4.2.2.2.2.2.2,y4.2.1)))
def zdm.k (N:Nat):Kq:=⟨65,(cvv [Ty.Storage,T6] [Ty.zP] (zdm N)),go [zho.k N,zbe.k N,zlo.k,zgk.k N,ze0.k N] {} [(0,.rets {slots:=[(2,.ptr 2 0),(5,.val (Ty.sl T6)),(7,.ptr 7 0),(8,.val T6),(31,.val (Ty.sl Ty.zL)),(32,.val T6),(33,.val T6)],boxes:=[(2,Ty.Storage,[1]),(7,Ty.Storage,[])]} [(Ty.sl T6),T6,(Ty.sl Ty.zL),T6,T6,Ty.Storage,Ty.Storage] (zp (zdm.r0 N) N))] Proofs.Tryz.func65 (hL:=⟨⟨_,_,rfl,by kernel_rfl⟩,trivial⟩)⟩
def zb (a0:zI) (a1:zA):Option zI:=
 cond (Nat.ble ((a0.code.length+([a1]:List zA).length)*224) zae)
  (some (⟨a0.zP,a0.layout,(a0.code++([a1]:List zA))⟩:zI)) none
def zb.k:Kq:=⟨67,(ctv [.ptr Ty.zI true [4],.val Ty.zA] [] [Ty.zI] [] [Ty.zI,Ty.zA] zb),go [] {lits:=[10],pk:=[1000000]} [] Proofs.Tryz.func67⟩
def zex (a0:zL):Option Bool:=
 some (a0.zF.Kind !=0)
def zex.k:Kq:=⟨192,(cvv [Ty.bool] [Ty.zL] zex),go [] {} [] Proofs.Tryz.func192⟩
def zb5 (a0:zL):Option Bool:=
 some (a0.Kind==4)
def zb5.k:Kq:=⟨193,(cvv [Ty.bool] [Ty.zL] zb5),go [] {} [] Proofs.Tryz.func193⟩
def zf3 (a0:zL) (a1:zL):Option Bool:=
 some (a0.Name.toList==a1.Base.toList)
def zf3.k:Kq:=⟨273,(ctv [.val Ty.zL,.ptr Ty.zL false []] [Ty.bool] [] [] [Ty.zL,Ty.zL] zf3),go [] {ro:=[1000000],pk:=[1000000]} [] Proofs.Tryz.func273⟩
def za2.b0 (N:Nat) (s0:List zL) (s7:Int) (s8:Int) (b1000000:zL):Option (Round Int ((List zL) × Int × Int × zL)):=
 cond (decide (s8<s7)) ((idx s0 s8).bind fun x1001=>(zf3 x1001 b1000000).bind fun r1002=>cond r1002 (some (.result s8))
  (some (.again (s0,s7,(w6 (s8+1)),b1000000)))) (some (.leave (s0,s7,s8,b1000000)))
def za2.r0 (N:Nat) (x:(List zL) × Int × Int × zL):=za2.b0 N x.1 x.2.1 x.2.2.1 x.2.2.2
def za2 (N:Nat) (a0:List zL) (a1:zL):Option Int:=
 (zp (za2.r0 N) N (a0,(a0.length:Int),0,a1)).bind fun z2=>zbq z2 (fun z=>some z) (fun y1=>some (-1))
def za2.k (N:Nat):Kq:=⟨262,(ctv [.val (Ty.sl Ty.zL),.clo 273 1,.ptr Ty.zL false []] [T6] [] [] [(Ty.sl Ty.zL),Ty.zL] (za2 N)),go [zf3.k] {ro:=[1000000],pk:=[1000000]} [(0,.rets {slots:=[(0,.val (Ty.sl Ty.zL)),(1,.fn 273 [1000000]),(7,.val T6),(8,.val T6)],boxes:=[(1000000,Ty.zL,[])]} [(Ty.sl Ty.zL),T6,T6,Ty.zL] (zp (za2.r0 N) N))] Proofs.Tryz.func262 (hL:=⟨⟨_,_,rfl,by kernel_rfl⟩,trivial⟩)⟩
def zr (N:Nat) (a0:zI) (a1:Int):Option zN:=
 (idx a0.zP.zW a1).bind fun x1=>cond (x1.Kind !=2) ((idx a0.layout a1).bind fun x2=>some (⟨false,0,x2⟩:zN))
  ((za2 N a0.zP.zW x1).bind fun r3=>(idx a0.layout r3).bind fun x4=>some (⟨true,x4,x1.Offset⟩:zN))
def zr.k (N:Nat):Kq:=⟨194,(ctv [.ptr Ty.zI false [],.val T6] [Ty.zN] [] [] [Ty.zI,T6] (zr N)),go [za2.k N] {ro:=[1000000],pk:=[1000000]} [] Proofs.Tryz.func194⟩
def zan (N:Nat) (a0:zI) (a1:Int) (a2:Int):Option zI:=
 (idx a0.zP.zW a2).bind fun x1=>(zb5 x1).bind fun r2=>
  cond r2 ((zb a0 (⟨2,a1,0,0,0,(⟨false,0,0⟩:zN),(⟨false,0,0⟩:zN),(⟨0,0,0⟩:DataType),(⟨0,0,0⟩:DataType),false,false,(⟨x1.Value.N,x1.zF.Scale⟩:Number),(⟨#[]⟩:ByteArray),(⟨#[]⟩:ByteArray),0,0,0,0⟩:zA)).bind fun r3=>
  some r3) ((zr N a0 a2).bind fun r4=>
  (zb a0 (⟨0,a1,0,0,0,r4,(⟨false,0,0⟩:zN),x1.zF,(⟨0,0,0⟩:DataType),false,false,(⟨0,0⟩:Number),(⟨#[]⟩:ByteArray),(⟨#[]⟩:ByteArray),0,0,0,0⟩:zA)).bind fun r5=>
  some r5)
def zan.k (N:Nat):Kq:=⟨117,(ctv [.ptr Ty.zI true [4],.val T6,.val T6] [] [Ty.zI] [] [Ty.zI,T6,T6] (zan N)),go [zb.k,zb5.k,zr.k N] {lits:=[32],pk:=[1000000]} [] Proofs.Tryz.func117⟩
def zc7 (N:Nat) (a0:zI) (a1:Int) (a2:Bool):Option zI:=
 (zr N a0 a1).bind fun r1=>(idx a0.zP.zW a1).bind fun x2=>
  (zb a0 (⟨1,0,0,0,0,r1,(⟨false,0,0⟩:zN),x2.zF,(⟨0,0,0⟩:DataType),a2,false,(⟨0,0⟩:Number),(⟨#[]⟩:ByteArray),(⟨#[]⟩:ByteArray),0,0,0,0⟩:zA)).bind fun r3=>
  some r3
def zc7.k (N:Nat):Kq:=⟨118,(ctv [.ptr Ty.zI true [4],.val T6,.val Ty.bool] [] [Ty.zI] [] [Ty.zI,T6,Ty.bool] (zc7 N)),go [zb.k,zr.k N] {lits:=[9],pk:=[1000000]} [] Proofs.Tryz.func118⟩
def zhr (N:Nat) (a0:zI) (a1:zS):Option zI:=
 (idx a1.Args 0).bind fun x1=>(idx a1.Args 1).bind fun x2=>(idx a0.zP.zW x1).bind fun x3=>(idx a0.zP.zW x2).bind fun x4=>
  (zex x3).bind fun r5=>cond r5 ((zan N a0 0 x2).bind fun r6=>(zc7 N r6 x1 (a1.Op==1)).bind fun r7=>some r7)
  ((zb5 x4).bind fun r8=>cond r8 ((zr N a0 x1).bind fun r9=>
  (zb a0 (⟨10,0,0,0,0,r9,(⟨false,0,0⟩:zN),x3.zF,(⟨0,0,0⟩:DataType),false,false,(⟨0,0⟩:Number),x4.Value.S,(⟨#[]⟩:ByteArray),0,0,0,0⟩:zA)).bind fun r10=>
  some r10) ((zr N a0 x1).bind fun r11=>(zr N a0 x2).bind fun r12=>
  (zb a0 (⟨9,0,0,0,0,r11,r12,x3.zF,x4.zF,false,false,(⟨0,0⟩:Number),(⟨#[]⟩:ByteArray),(⟨#[]⟩:ByteArray),0,0,0,0⟩:zA)).bind fun r13=>
  some r13))
def zhr.k (N:Nat):Kq:=⟨113,(ctv [.ptr Ty.zI true [4],.val Ty.zS] [] [Ty.zI] [] [Ty.zI,Ty.zS] (zhr N)),go [zb.k,zan.k N,zc7.k N,zex.k,zb5.k,zr.k N] {lits:=[35,40,63],pk:=[1000000]} [] Proofs.Tryz.func113⟩
def zfv (N:Nat) (a0:zI) (a1:zS):Option zI:=
 (idx a1.Args 1).bind fun x1=>(zan N a0 0 x1).bind fun r2=>(idx a1.Args 2).bind fun x3=>(zan N r2 1 x3).bind fun r4=>
  (idx a1.Args 0).bind fun x5=>(idx r4.zP.zW x5).bind fun x6=>
  (zb r4 (⟨4,0,0,1,(w6 ((w6 (a1.Op-2))+0)),(⟨false,0,0⟩:zN),(⟨false,0,0⟩:zN),x6.zF,(⟨0,0,0⟩:DataType),false,false,(⟨0,0⟩:Number),(⟨#[]⟩:ByteArray),(⟨#[]⟩:ByteArray),0,0,0,0⟩:zA)).bind fun r7=>
  (idx a1.Args 0).bind fun x8=>(zc7 N r7 x8 false).bind fun r9=>some r9
def zfv.k (N:Nat):Kq:=⟨114,(ctv [.ptr Ty.zI true [4],.val Ty.zS] [] [Ty.zI] [] [Ty.zI,Ty.zS] (zfv N)),go [zb.k,zan.k N,zc7.k N] {pk:=[1000000]} [] Proofs.Tryz.func114⟩
def zhc (N:Nat) (a0:zI) (a1:Int) (a2:Int):Option (Bool × zI):=
 (idx a0.zP.zW a1).bind fun x1=>(idx a0.zP.zW a2).bind fun x2=>(zb5 x1).bind fun r3=>
  (cond r3 ((zb5 x2).bind fun r4=>some r4) (some false)).bind fun g5=>
  cond g5 ((zb a0 (⟨13,0,0,0,0,(⟨false,0,0⟩:zN),(⟨false,0,0⟩:zN),(⟨0,0,0⟩:DataType),(⟨0,0,0⟩:DataType),false,false,(⟨0,0⟩:Number),x1.Value.S,x2.Value.S,0,0,0,0⟩:zA)).bind fun r6=>
  some (false,r6)) ((zb5 x2).bind fun r7=>cond r7 ((zr N a0 a1).bind fun r8=>
  (zb a0 (⟨12,0,0,0,0,r8,(⟨false,0,0⟩:zN),x1.zF,(⟨0,0,0⟩:DataType),false,false,(⟨0,0⟩:Number),x2.Value.S,(⟨#[]⟩:ByteArray),0,0,0,0⟩:zA)).bind fun r9=>
  some (false,r9)) ((zb5 x1).bind fun r10=>cond r10 ((zr N a0 a2).bind fun r11=>
  (zb a0 (⟨12,0,0,0,0,r11,(⟨false,0,0⟩:zN),x2.zF,(⟨0,0,0⟩:DataType),false,false,(⟨0,0⟩:Number),x1.Value.S,(⟨#[]⟩:ByteArray),0,0,0,0⟩:zA)).bind fun r12=>
  some (true,r12)) ((zr N a0 a1).bind fun r13=>(zr N a0 a2).bind fun r14=>
  (zb a0 (⟨11,0,0,0,0,r13,r14,x1.zF,x2.zF,false,false,(⟨0,0⟩:Number),(⟨#[]⟩:ByteArray),(⟨#[]⟩:ByteArray),0,0,0,0⟩:zA)).bind fun r15=>
  some (false,r15))))
def zhc.k (N:Nat):Kq:=⟨195,(ctv [.ptr Ty.zI true [4],.val T6,.val T6] [Ty.bool] [Ty.zI] [] [Ty.zI,T6,T6] (zhc N)),go [zb.k,zb5.k,zr.k N] {lits:=[28,33,60,74],pk:=[1000000]} [] Proofs.Tryz.func195⟩
def zgw (N:Nat) (a0:zI) (a1:zS):Option zI:=
 (idx a1.Args 0).bind fun x1=>(idx a0.zP.zW x1).bind fun x2=>(zex x2).bind fun r3=>cond r3 ((idx a1.Args 0).bind fun x4=>
  (zan N a0 0 x4).bind fun r5=>(idx a1.Args 1).bind fun x6=>(zan N r5 1 x6).bind fun r7=>
  (zb r7 (⟨5,0,0,1,0,(⟨false,0,0⟩:zN),(⟨false,0,0⟩:zN),(⟨0,0,0⟩:DataType),(⟨0,0,0⟩:DataType),false,false,(⟨0,0⟩:Number),(⟨#[]⟩:ByteArray),(⟨#[]⟩:ByteArray),0,0,0,0⟩:zA)).bind fun r8=>
  (cond (a1.Op==8) (some false) (some false)).bind fun g9=>cond g9 ((idx a1.Args 2).bind fun x10=>(idx r8.zP.zW x10).bind fun x11=>
  (zb r8 (⟨6,0,0,0,0,(⟨false,0,0⟩:zN),(⟨false,0,0⟩:zN),(⟨0,0,0⟩:DataType),(⟨0,0,0⟩:DataType),false,false,(⟨0,0⟩:Number),(⟨#[]⟩:ByteArray),(⟨#[]⟩:ByteArray),4,x11.Target,0,0⟩:zA)).bind fun r12=>
  some r12) (cond (a1.Op==8) ((idx a1.Args 2).bind fun x13=>(idx r8.zP.zW x13).bind fun x14=>
  (zb r8 (⟨6,0,0,0,0,(⟨false,0,0⟩:zN),(⟨false,0,0⟩:zN),(⟨0,0,0⟩:DataType),(⟨0,0,0⟩:DataType),false,false,(⟨0,0⟩:Number),(⟨#[]⟩:ByteArray),(⟨#[]⟩:ByteArray),1,x14.Target,0,0⟩:zA)).bind fun r15=>
  some r15) ((idx a1.Args 2).bind fun x16=>(idx r8.zP.zW x16).bind fun x17=>
  (zb r8 (⟨6,0,0,0,0,(⟨false,0,0⟩:zN),(⟨false,0,0⟩:zN),(⟨0,0,0⟩:DataType),(⟨0,0,0⟩:DataType),false,false,(⟨0,0⟩:Number),(⟨#[]⟩:ByteArray),(⟨#[]⟩:ByteArray),2,x17.Target,0,0⟩:zA)).bind fun r18=>
  some r18))) ((idx a1.Args 0).bind fun x19=>(idx a1.Args 1).bind fun x20=>(zhc N a0 x19 x20).bind fun r21=>(cond (a1.Op==8) (some r21.1)
  (some false)).bind fun g22=>cond g22 ((idx a1.Args 2).bind fun x23=>(idx r21.2.zP.zW x23).bind fun x24=>
  (zb r21.2 (⟨6,0,0,0,0,(⟨false,0,0⟩:zN),(⟨false,0,0⟩:zN),(⟨0,0,0⟩:DataType),(⟨0,0,0⟩:DataType),false,false,(⟨0,0⟩:Number),(⟨#[]⟩:ByteArray),(⟨#[]⟩:ByteArray),4,x24.Target,0,0⟩:zA)).bind fun r25=>
  some r25) (cond (a1.Op==8) ((idx a1.Args 2).bind fun x26=>(idx r21.2.zP.zW x26).bind fun x27=>
  (zb r21.2 (⟨6,0,0,0,0,(⟨false,0,0⟩:zN),(⟨false,0,0⟩:zN),(⟨0,0,0⟩:DataType),(⟨0,0,0⟩:DataType),false,false,(⟨0,0⟩:Number),(⟨#[]⟩:ByteArray),(⟨#[]⟩:ByteArray),1,x27.Target,0,0⟩:zA)).bind fun r28=>
  some r28) ((idx a1.Args 2).bind fun x29=>(idx r21.2.zP.zW x29).bind fun x30=>
  (zb r21.2 (⟨6,0,0,0,0,(⟨false,0,0⟩:zN),(⟨false,0,0⟩:zN),(⟨0,0,0⟩:DataType),(⟨0,0,0⟩:DataType),false,false,(⟨0,0⟩:Number),(⟨#[]⟩:ByteArray),(⟨#[]⟩:ByteArray),2,x30.Target,0,0⟩:zA)).bind fun r31=>
  some r31)))
def zgw.k (N:Nat):Kq:=⟨115,(ctv [.ptr Ty.zI true [4],.val Ty.zS] [] [Ty.zI] [] [Ty.zI,Ty.zS] (zgw N)),go [zb.k,zan.k N,zex.k,zhc.k N] {pk:=[1000000]} [] Proofs.Tryz.func115⟩
def zf2 (N:Nat) (a0:zI) (a1:zS):Option zI:=
 (idx a1.Args 0).bind fun x1=>(idx a0.layout x1).bind fun x2=>cond (a1.Op==10) ((idx a1.Args 1).bind fun x3=>(zr N a0 x3).bind fun r4=>
  (idx a1.Args 1).bind fun x5=>(idx a0.zP.zW x5).bind fun x6=>
  (zb a0 (⟨14,0,0,0,0,r4,(⟨false,0,0⟩:zN),x6.zF,(⟨0,0,0⟩:DataType),false,false,(⟨0,0⟩:Number),(⟨#[]⟩:ByteArray),(⟨#[]⟩:ByteArray),0,0,x2,0⟩:zA)).bind fun r7=>
  some r7) (cond (a1.Op==11) ((idx a1.Args 1).bind fun x8=>(idx a0.layout x8).bind fun x9=>
  (zb a0 (⟨15,0,0,0,0,(⟨false,0,0⟩:zN),(⟨false,0,0⟩:zN),(⟨0,0,0⟩:DataType),(⟨0,0,0⟩:DataType),false,false,(⟨0,0⟩:Number),(⟨#[]⟩:ByteArray),(⟨#[]⟩:ByteArray),0,0,x2,x9⟩:zA)).bind fun r10=>
  some r10) (cond (a1.Op==12)
  ((zb a0 (⟨17,0,0,0,0,(⟨false,0,0⟩:zN),(⟨false,0,0⟩:zN),(⟨0,0,0⟩:DataType),(⟨0,0,0⟩:DataType),false,false,(⟨0,0⟩:Number),(⟨#[]⟩:ByteArray),(⟨#[]⟩:ByteArray),0,0,x2,0⟩:zA)).bind fun r11=>
  (idx a1.Args 1).bind fun x12=>(zan N r11 0 x12).bind fun r13=>
  (zb r13 (⟨16,0,0,0,0,(⟨false,0,0⟩:zN),(⟨false,0,0⟩:zN),(⟨0,0,0⟩:DataType),(⟨0,0,0⟩:DataType),false,false,(⟨0,0⟩:Number),(⟨#[]⟩:ByteArray),(⟨#[]⟩:ByteArray),0,0,x2,0⟩:zA)).bind fun r14=>
  some r14) (some a0)))
def zf2.k (N:Nat):Kq:=⟨116,(ctv [.ptr Ty.zI true [4],.val Ty.zS] [] [Ty.zI] [] [Ty.zI,Ty.zS] (zf2 N)),go [zb.k,zan.k N,zr.k N] {lits:=[26],pk:=[1000000]} [] Proofs.Tryz.func116⟩
def zhd (N:Nat) (a0:zI) (a1:Int):Option zI:=
 (idx a0.zP.zW a1).bind fun x1=>(zex x1).bind fun r2=>cond r2 ((zan N a0 0 a1).bind fun r3=>
  (zb r3 (⟨22,0,0,0,0,(⟨false,0,0⟩:zN),(⟨false,0,0⟩:zN),(⟨0,0,0⟩:DataType),(⟨0,0,0⟩:DataType),false,false,(⟨0,0⟩:Number),(⟨#[]⟩:ByteArray),(⟨#[]⟩:ByteArray),0,0,0,0⟩:zA)).bind fun r4=>
  some r4) ((zb5 x1).bind fun r5=>
  cond r5 ((zb a0 (⟨24,0,0,0,0,(⟨false,0,0⟩:zN),(⟨false,0,0⟩:zN),(⟨0,0,0⟩:DataType),(⟨0,0,0⟩:DataType),false,false,(⟨0,0⟩:Number),x1.Value.S,(⟨#[]⟩:ByteArray),0,0,0,0⟩:zA)).bind fun r6=>
  some r6) ((zr N a0 a1).bind fun r7=>
  (zb a0 (⟨23,0,0,0,0,r7,(⟨false,0,0⟩:zN),x1.zF,(⟨0,0,0⟩:DataType),false,false,(⟨0,0⟩:Number),(⟨#[]⟩:ByteArray),(⟨#[]⟩:ByteArray),0,0,0,0⟩:zA)).bind fun r8=>
  some r8))
def zhd.k (N:Nat):Kq:=⟨119,(ctv [.ptr Ty.zI true [4],.val T6] [] [Ty.zI] [] [Ty.zI,T6] (zhd N)),go [zb.k,zan.k N,zex.k,zb5.k,zr.k N] {lits:=[16],pk:=[1000000]} [] Proofs.Tryz.func119⟩
def zfg (N:Nat) (a0:zI) (a1:zS):Option zI:=
 (zb a0 (⟨25,0,0,0,0,(⟨false,0,0⟩:zN),(⟨false,0,0⟩:zN),(⟨0,0,0⟩:DataType),(⟨0,0,0⟩:DataType),false,false,(⟨0,0⟩:Number),(⟨#[]⟩:ByteArray),(⟨#[]⟩:ByteArray),0,0,0,0⟩:zA)).bind fun r1=>
  (cond (a1.Op==0) (some (a1.Op==0)) (some (a1.Op==1))).bind fun q2=>cond q2 ((zhr N r1 a1).bind fun r3=>some r3) ((cond (a1.Op==2)
  (some (a1.Op==2)) (cond (a1.Op==3) (some (a1.Op==3)) (cond (a1.Op==4) (some (a1.Op==4)) (cond (a1.Op==5) (some (a1.Op==5)) (some (a1.Op==6)))))).bind fun q4=>
  cond q4 ((zfv N r1 a1).bind fun r5=>some r5) ((cond (a1.Op==7) (some (a1.Op==7)) (some (a1.Op==8))).bind fun q6=>
  cond q6 ((zgw N r1 a1).bind fun r7=>some r7) (cond (a1.Op==9) ((idx a1.Args 0).bind fun x8=>(idx r1.zP.zW x8).bind fun x9=>
  (zb r1 (⟨8,0,0,0,0,(⟨false,0,0⟩:zN),(⟨false,0,0⟩:zN),(⟨0,0,0⟩:DataType),(⟨0,0,0⟩:DataType),false,false,(⟨0,0⟩:Number),(⟨#[]⟩:ByteArray),(⟨#[]⟩:ByteArray),0,x9.Target,0,0⟩:zA)).bind fun r10=>
  some r10) (cond (a1.Op==13) ((idx a1.Args 0).bind fun x11=>(idx r1.zP.zW x11).bind fun x12=>
  (zb r1 (⟨18,0,0,0,0,(⟨false,0,0⟩:zN),(⟨false,0,0⟩:zN),(⟨0,0,0⟩:DataType),(⟨0,0,0⟩:DataType),false,false,(⟨0,0⟩:Number),(⟨#[]⟩:ByteArray),(⟨#[]⟩:ByteArray),0,x12.Target,0,0⟩:zA)).bind fun r13=>
  some r13) ((cond (a1.Op==10) (some (a1.Op==10)) (cond (a1.Op==11) (some (a1.Op==11)) (some (a1.Op==12)))).bind fun q14=>
  cond q14 ((zf2 N r1 a1).bind fun r15=>some r15) (cond (a1.Op==14)
  ((zb r1 (⟨19,0,0,0,0,(⟨false,0,0⟩:zN),(⟨false,0,0⟩:zN),(⟨0,0,0⟩:DataType),(⟨0,0,0⟩:DataType),false,false,(⟨0,0⟩:Number),(⟨#[]⟩:ByteArray),(⟨#[]⟩:ByteArray),0,0,0,0⟩:zA)).bind fun r16=>
  some r16) (cond (a1.Op==15) ((idx a1.Args 0).bind fun x17=>(zan N r1 0 x17).bind fun r18=>
  (zb r18 (⟨20,0,0,0,0,(⟨false,0,0⟩:zN),(⟨false,0,0⟩:zN),(⟨0,0,0⟩:DataType),(⟨0,0,0⟩:DataType),false,false,(⟨0,0⟩:Number),(⟨#[]⟩:ByteArray),(⟨#[]⟩:ByteArray),0,0,0,0⟩:zA)).bind fun r19=>
  some r19) (cond (a1.Op==16)
  ((zb r1 (⟨21,0,0,0,0,(⟨false,0,0⟩:zN),(⟨false,0,0⟩:zN),(⟨0,0,0⟩:DataType),(⟨0,0,0⟩:DataType),false,false,(⟨0,0⟩:Number),(⟨#[]⟩:ByteArray),(⟨#[]⟩:ByteArray),0,0,0,0⟩:zA)).bind fun r20=>
  (idx a1.Args 0).bind fun x21=>(zc7 N r20 x21 false).bind fun r22=>some r22) (cond (a1.Op==17) ((idx a1.Args 0).bind fun x23=>
  (zhd N r1 x23).bind fun r24=>some r24) (cond (a1.Op==18)
  ((zb r1 (⟨26,0,0,0,0,(⟨false,0,0⟩:zN),(⟨false,0,0⟩:zN),(⟨0,0,0⟩:DataType),(⟨0,0,0⟩:DataType),false,false,(⟨0,0⟩:Number),(⟨#[]⟩:ByteArray),(⟨#[]⟩:ByteArray),0,0,0,0⟩:zA)).bind fun r25=>
  some r25) (some r1)))))))))))
def zfg.k (N:Nat):Kq:=⟨66,(ctv [.ptr Ty.zI true [4],.val Ty.zS] [] [Ty.zI] [] [Ty.zI,Ty.zS] (zfg N)),go [zb.k,zhr.k N,zfv.k N,zgw.k N,zf2.k N,zan.k N,zc7.k N,zhd.k N] {pk:=[1000000],bj:=[9,15,24,64]} [] Proofs.Tryz.func66⟩
def zez.b0 (N:Nat) (s1:List Int) (s5:List zT) (s8:List zX) (s9:Int) (s10:Int):Option (Stp ((List Int) × (List zT) × (List zX) × Int × Int)):=
 cond (decide (s10<s9)) ((idx s8 s10).bind fun x1001=>(idx s1 x1001.From).bind fun x1002=>(idx s1 x1001.To).bind fun x1003=>(idx s1 x1001.Handler).bind fun x1004=>
  cond (Nat.ble ((s5.length+([(⟨x1002,x1003,x1001.Exception,x1004⟩:zT)]:List zT).length)*32) zae)
  (some (.again (s1,(s5++([(⟨x1002,x1003,x1001.Exception,x1004⟩:zT)]:List zT)),s8,s9,(w6 (s10+1))))) none) (some (.leave (s1,s5,s8,s9,s10)))
def zez.r0 (N:Nat) (x:(List Int) × (List zT) × (List zX) × Int × Int):=zez.b0 N x.1 x.2.1 x.2.2.1 x.2.2.2.1 x.2.2.2.2
def zez (N:Nat) (a0:List zX) (a1:List Int):Option ((List zT)):=
 (zi (zez.r0 N) N (a1,[],a0,(a0.length:Int),0)).bind fun y1=>some y1.2.1
def zez.k (N:Nat):Kq:=⟨69,(cvv [(Ty.sl Ty.zT)] [(Ty.sl Ty.zX),(Ty.sl T6)] (zez N)),go [] {lits:=[33]} [(0,.plain {slots:=[(1,.val (Ty.sl T6)),(5,.own 5000005 Ty.zT),(8,.val (Ty.sl Ty.zX)),(9,.val T6),(10,.val T6)],boxes:=[]} [(Ty.sl T6),(Ty.sl Ty.zT),(Ty.sl Ty.zX),T6,T6] (zi (zez.r0 N) N))] Proofs.Tryz.func69 (hL:=⟨⟨_,_,rfl,by kernel_rfl⟩,trivial⟩)⟩
def zb2.b0 (N:Nat) (s13:List Int) (s55:List zS) (s56:Int) (s57:Int) (b2:zP) (b4:zH) (b5:yD) (b11:Storage) (b53:zI):Option (Stp ((List Int) × (List zS) × Int × Int × zP × zH × yD × Storage × zI)):=
 cond (decide (s57<s56)) ((idx s55 s57).bind fun x1001=>cond (Nat.ble ((s13.length+([(b53.code.length:Int)]:List Int).length)*8) zae)
  ((zfg N b53 x1001).bind fun r1002=>
  some (.again ((s13++([(b53.code.length:Int)]:List Int)),s55,s56,(w6 (s57+1)),b2,b4,b5,b11,r1002))) none)
  (some (.leave (s13,s55,s56,s57,b2,b4,b5,b11,b53)))
def zb2.r0 (N:Nat) (x:(List Int) × (List zS) × Int × Int × zP × zH × yD × Storage × zI):=zb2.b0 N x.1 x.2.1 x.2.2.1 x.2.2.2.1 x.2.2.2.2.1 x.2.2.2.2.2.1 x.2.2.2.2.2.2.1 x.2.2.2.2.2.2.2.1 x.2.2.2.2.2.2.2.2
def zb2.b2 (N:Nat) (s13:List Int) (s88:Int) (s89:Int) (b2:zP) (b4:zH) (b5:yD) (b11:Storage) (b53:zI):Option (Stp ((List Int) × Int × Int × zP × zH × yD × Storage × zI)):=
 cond (decide (s89<s88)) (if 0≤s89 then(if s89<(b53.code.length:Int)then((b53.code[s89.toNat]?).bind fun x3001=>(zd6 x3001.Op).bind fun r3002=>
  cond r3002 (if 0≤x3001.Target then(if x3001.Target<(s13.length:Int)then((s13[x3001.Target.toNat]?).bind fun x3003=>
  if 0≤s89 then(if s89<(b53.code.length:Int)then((b53.code[s89.toNat]?).bind fun x3004=>
  some (.again (s13,s88,(w6 (s89+1)),b2,b4,b5,b11,(⟨b53.zP,b53.layout,(b53.code.set s89.toNat (⟨x3004.Op,x3004.R,x3004.A,x3004.B,x3004.zM,x3004.Place,x3004.From,x3004.zF,x3004.Second,x3004.Half,x3004.zO,x3004.Number,x3004.Text,x3004.Other,x3004.Mask,x3003,x3004.Pointer,x3004.Source⟩:zA))⟩:zI))))else none)else none)else none)else none)
  (some (.again (s13,s88,(w6 (s89+1)),b2,b4,b5,b11,b53))))else none)else none) (some (.leave (s13,s88,s89,b2,b4,b5,b11,b53)))
def zb2.r2 (N:Nat) (x:(List Int) × Int × Int × zP × zH × yD × Storage × zI):=zb2.b2 N x.1 x.2.1 x.2.2.1 x.2.2.2.1 x.2.2.2.2.1 x.2.2.2.2.2.1 x.2.2.2.2.2.2.1 x.2.2.2.2.2.2.2
def zb2 (N:Nat) (a0:zP) (a1:zK):Option (zH × yD × Int):=
 (zji N a0).bind fun r1=>(zey a1).bind fun r2=>(zbo N ([r1,r2]:List Int)).bind fun r3=>cond (r3 !=0)
  (some ((⟨(⟨(⟨#[]⟩:ByteArray),[]⟩:Storage),[],[]⟩:zH),(⟨[]⟩:yD),r3)) ((znu N a0).bind fun r4=>cond (r4.2.2 !=0)
  (some ((⟨(⟨(⟨#[]⟩:ByteArray),[]⟩:Storage),[],[]⟩:zH),(⟨[]⟩:yD),r4.2.2)) ((zdm N a0).bind fun r5=>cond (r5.2 !=0)
  (some ((⟨(⟨(⟨#[]⟩:ByteArray),[]⟩:Storage),[],[]⟩:zH),(⟨[]⟩:yD),r5.2))
  ((zi (zb2.r0 N) N ([],a0.zB,(a0.zB.length:Int),0,a0,(⟨(⟨(⟨#[]⟩:ByteArray),[]⟩:Storage),[],[]⟩:zH),(⟨[]⟩:yD),r5.1,(⟨a0,r4.1,[]⟩:zI))).bind fun y6=>
  cond (Nat.ble ((y6.1.length+([(y6.2.2.2.2.2.2.2.2.code.length:Int)]:List Int).length)*8) zae)
  ((zb y6.2.2.2.2.2.2.2.2 (⟨26,0,0,0,0,(⟨false,0,0⟩:zN),(⟨false,0,0⟩:zN),(⟨0,0,0⟩:DataType),(⟨0,0,0⟩:DataType),false,false,(⟨0,0⟩:Number),(⟨#[]⟩:ByteArray),(⟨#[]⟩:ByteArray),0,0,0,0⟩:zA)).bind fun r7=>
  (zi (zb2.r2 N) N ((y6.1++([(y6.2.2.2.2.2.2.2.2.code.length:Int)]:List Int)),(r7.code.length:Int),0,y6.2.2.2.2.1,y6.2.2.2.2.2.1,y6.2.2.2.2.2.2.1,y6.2.2.2.2.2.2.2.1,r7)).bind fun y8=>
  (zez N y8.2.2.2.1.yJ y8.1).bind fun r9=>some ((⟨y8.2.2.2.2.2.2.1,y8.2.2.2.2.2.2.2.code,r9⟩:zH),(⟨y8.1⟩:yD),0)) none)))
def zb2.k (N:Nat):Kq:=⟨26,(cvv [Ty.zH,Ty.yD,T6] [Ty.zP,Ty.zK] (zb2 N)),go [zbo.k N,zji.k N,zey.k,znu.k N,zdm.k N,zfg.k N,zb.k,zd6.k,zez.k N] {pre:=[(26,[13])],lits:=[19,21,22,66,67,78,79]} [(0,.plain {slots:=[(2,.ptr 2 0),(4,.ptr 4 0),(5,.ptr 5 0),(11,.ptr 11 0),(12,.ptr 53 0),(13,.own 5000013 T6),(55,.val (Ty.sl Ty.zS)),(56,.val T6),(57,.val T6)],boxes:=[(2,Ty.zP,[]),(4,Ty.zH,[1,2,3]),(5,Ty.yD,[0]),(11,Ty.Storage,[]),(53,Ty.zI,[4])]} [(Ty.sl T6),(Ty.sl Ty.zS),T6,T6,Ty.zP,Ty.zH,Ty.yD,Ty.Storage,Ty.zI] (zi (zb2.r0 N) N)),(2,.plain {slots:=[(2,.ptr 2 0),(4,.ptr 4 0),(5,.ptr 5 0),(11,.ptr 11 0),(12,.ptr 53 0),(13,.own 5000013 T6),(87,.ofbox 12 53 4),(88,.val T6),(89,.val T6)],boxes:=[(2,Ty.zP,[]),(4,Ty.zH,[1,2,3]),(5,Ty.yD,[0]),(11,Ty.Storage,[]),(53,Ty.zI,[4])]} [(Ty.sl T6),T6,T6,Ty.zP,Ty.zH,Ty.yD,Ty.Storage,Ty.zI] (zi (zb2.r2 N) N))] Proofs.Tryz.func26 (hL:=⟨⟨_,_,rfl,by kernel_rfl⟩,⟨_,_,rfl,by kernel_rfl⟩,trivial⟩)⟩
def zn7 (N:Nat):Option Bool:=
 (zqr N).bind fun r1=>(zcf N (⟨2,false,false⟩:zK) r1).bind fun r2=>(zqs).bind fun r3=>
  (zb2 N r3 (⟨2,false,false⟩:zK)).bind fun r4=>(cond (r2.2.2==0) (some ((r2.1.zB.length:Int)==3)) (some false)).bind fun g5=>
  (cond g5 ((idx r2.1.zB 1).bind fun x6=>
  some (zdq [(x6.Op==3),(x6.R==1),(x6.A==0),(x6.B==0),(x6.zM==0),(x6.Place.Based==false),(x6.Place.Pointer==0),(x6.Place.Offset==0),(x6.From.Based==false),(x6.From.Pointer==0),(x6.From.Offset==0),(x6.zF.Kind==0),(x6.zF.Length==0),(x6.zF.Scale==0),(x6.Second.Kind==0),(x6.Second.Length==0),(x6.Second.Scale==0),(x6.Half==false),(x6.zO==false),(x6.Number.N==0),(x6.Number.Scale==0),(x6.Text==(⟨#[]⟩:ByteArray)),(x6.Other==(⟨#[]⟩:ByteArray)),(x6.Mask==0),(x6.Target==0),(x6.Pointer==0),(x6.Source==0)]))
  (some false)).bind fun g7=>(cond g7 (some (r4.2.2==0)) (some false)).bind fun g8=>(cond g8 (some ((r4.2.1.Starts.length:Int)==4)) (some false)).bind fun g9=>some g9
def zn7.k (N:Nat):Kq:=⟨5,(cvv [Ty.bool] [] (zn7 N)),go [zcf.k N,zqr.k N,zb2.k N,zqs.k] {lits:=[9,15]} [] Proofs.Tryz.func5⟩
def zik (a0:Storage):Option Bool:=
 (cond (decide ((a0.Bytes.size:Int)≤1072)) (some (decide ((a0.Tags.length:Int)≤67))) (some false)).bind fun g1=>some g1
def zik.k:Kq:=⟨28,(cvv [Ty.bool] [Ty.Storage] zik),go [] {} [] Proofs.Tryz.func28⟩
def zfd.b0 (N:Nat) (s3:Int) (b1:zH):Option (Round Bool (Int × zH)):=
 (cond (decide (s3<(b1.zB.length:Int))) (some (decide (s3<244))) (some false)).bind fun g1001=>cond g1001 ((idx b1.zB s3).bind fun x1002=>
  (cond (decide ((x1002.Text.size:Int)>300)) (some true) ((idx b1.zB s3).bind fun x1003=>some (decide ((x1003.Other.size:Int)>300)))).bind fun g1004=>
  cond g1004 (some (.result false)) (some (.again ((w6 (s3+1)),b1)))) (some (.leave (s3,b1)))
def zfd.r0 (N:Nat) (x:Int × zH):=zfd.b0 N x.1 x.2
def zfd (N:Nat) (a0:zH):Option Bool:=
 (zp (zfd.r0 N) N (0,a0)).bind fun z2=>zbq z2 (fun z=>some z) (fun y1=>(zik y1.2.Storage).bind fun r3=>
  (cond r3 (some (decide ((y1.2.zB.length:Int)<244))) (some false)).bind fun g4=>(cond g4 (some (decide ((y1.2.zQ.length:Int)<44)))
  (some false)).bind fun g5=>some g5)
def zfd.k (N:Nat):Kq:=⟨6,(cvv [Ty.bool] [Ty.zH] (zfd N)),go [zik.k] {} [(0,.rets {slots:=[(1,.ptr 1 0),(3,.val T6)],boxes:=[(1,Ty.zH,[])]} [T6,Ty.zH] (zp (zfd.r0 N) N))] Proofs.Tryz.func6 (hL:=⟨⟨_,_,rfl,by kernel_rfl⟩,trivial⟩)⟩
def zc3.b0 (N:Nat) (s0:List (List zD)) (s3:Int):Option (Round Bool ((List (List zD)) × Int)):=
 (cond (decide (s3<(s0.length:Int))) (some (decide (s3≤250))) (some false)).bind fun g1001=>cond g1001 ((idx s0 s3).bind fun x1002=>
  cond (decide ((x1002.length:Int)>64)) (some (.result false)) (some (.again (s0,(w6 (s3+1)))))) (some (.leave (s0,s3)))
def zc3.r0 (N:Nat) (x:(List (List zD)) × Int):=zc3.b0 N x.1 x.2
def zc3 (N:Nat) (a0:List (List zD)):Option Bool:=
 (zp (zc3.r0 N) N (a0,0)).bind fun z2=>zbq z2 (fun z=>some z) (fun y1=>some (decide ((y1.1.length:Int)≤250)))
def zc3.k (N:Nat):Kq:=⟨43,(cvv [Ty.bool] [(Ty.sl (Ty.sl Ty.zD))] (zc3 N)),go [] {} [(0,.rets {slots:=[(0,.val (Ty.sl (Ty.sl Ty.zD))),(3,.val T6)],boxes:=[]} [(Ty.sl (Ty.sl Ty.zD)),T6] (zp (zc3.r0 N) N))] Proofs.Tryz.func43 (hL:=⟨⟨_,_,rfl,by kernel_rfl⟩,trivial⟩)⟩
def zfy (N:Nat) (a0:Optimization):Option Bool:=
 (zfd N a0.Before).bind fun r1=>(cond r1 ((zfd N a0.After).bind fun r2=>some r2) (some false)).bind fun g3=>
  (cond g3 ((zc3 N a0.Proof.Facts).bind fun r4=>some r4) (some false)).bind fun g5=>(cond g5 (some (decide ((a0.Proof.Index.length:Int)≤250)))
  (some false)).bind fun g6=>some g6
def zfy.k (N:Nat):Kq:=⟨18,(cvv [Ty.bool] [Ty.Optimization] (zfy N)),go [zfd.k N,zc3.k N] {} [] Proofs.Tryz.func18⟩
def zj6 (a0:List Bool):Option ((List Bool)):=
 cond (Nat.ble (a0.length*1) zae) (some a0) none
def zj6.k:Kq:=⟨81,(ctv [.val (Ty.sl Ty.bool)] [(Ty.sl Ty.bool)] [] [0] [(Ty.sl Ty.bool)] zj6),go [] {} [] Proofs.Tryz.func81⟩
def zg1 (a0:Storage):Option Storage:=
 (zj6 a0.Tags).bind fun r1=>some (⟨a0.Bytes,r1⟩:Storage)
def zg1.k:Kq:=⟨34,(ctv [.val Ty.Storage] [Ty.Storage] [] [1] [Ty.Storage] zg1),go [zj6.k] {} [] Proofs.Tryz.func34⟩
def zgg (a0:zH):Option zH:=
 (zg1 a0.Storage).bind fun r1=>cond (Nat.ble (a0.zB.length*224) zae) (cond (Nat.ble (a0.zQ.length*32) zae)
  (some (⟨r1,a0.zB,a0.zQ⟩:zH)) none) none
def zgg.k:Kq:=⟨9,(cvv [Ty.zH] [Ty.zH] zgg),go [zg1.k] {} [] Proofs.Tryz.func9⟩
def zc1.b0 (N:Nat) (s0:List (List zD)) (s3:List (List zD)) (s4:Int):Option (Stp ((List (List zD)) × (List (List zD)) × Int)):=
 cond (decide (s4<(s0.length:Int))) ((idx s0 s4).bind fun x1001=>cond (Nat.ble (x1001.length*40) zae)
  (cond (Nat.ble ((s3.length+([x1001]:List (List zD)).length)*24) zae)
  (some (.again (s0,(s3++([x1001]:List (List zD))),(w6 (s4+1))))) none) none) (some (.leave (s0,s3,s4)))
def zc1.r0 (N:Nat) (x:(List (List zD)) × (List (List zD)) × Int):=zc1.b0 N x.1 x.2.1 x.2.2
def zc1 (N:Nat) (a0:List (List zD)):Option ((List (List zD))):=
 (zi (zc1.r0 N) N (a0,[],0)).bind fun y1=>some y1.2.1
def zc1.k (N:Nat):Kq:=⟨100,(cvv [(Ty.sl (Ty.sl Ty.zD))] [(Ty.sl (Ty.sl Ty.zD))] (zc1 N)),go [] {lits:=[16,17]} [(0,.plain {slots:=[(0,.val (Ty.sl (Ty.sl Ty.zD))),(3,.own 5000003 (Ty.sl Ty.zD)),(4,.val T6)],boxes:=[]} [(Ty.sl (Ty.sl Ty.zD)),(Ty.sl (Ty.sl Ty.zD)),T6] (zi (zc1.r0 N) N))] Proofs.Tryz.func100 (hL:=⟨⟨_,_,rfl,by kernel_rfl⟩,trivial⟩)⟩
def zjg (a0:List Int):Option ((List Int)):=
 cond (Nat.ble (a0.length*8) zae) (some a0) none
def zjg.k:Kq:=⟨83,(ctv [.val (Ty.sl T6)] [(Ty.sl T6)] [] [0] [(Ty.sl T6)] zjg),go [] {} [] Proofs.Tryz.func83⟩
def zlu (N:Nat) (a0:yA):Option yA:=
 (zc1 N a0.Facts).bind fun r1=>(zjg a0.Index).bind fun r2=>some (⟨r1,r2⟩:yA)
def zlu.k (N:Nat):Kq:=⟨51,(cvv [Ty.yA] [Ty.yA] (zlu N)),go [zjg.k,zc1.k N] {} [] Proofs.Tryz.func51⟩
def zfx (N:Nat) (a0:Optimization):Option Optimization:=
 (zgg a0.Before).bind fun r1=>(zgg a0.After).bind fun r2=>(zlu N a0.Proof).bind fun r3=>some (⟨a0.Model,r1,r2,r3⟩:Optimization)
def zfx.k (N:Nat):Kq:=⟨20,(cvv [Ty.Optimization] [Ty.Optimization] (zfx N)),go [zgg.k,zlu.k N] {} [] Proofs.Tryz.func20⟩
def zek (a0:Bool) (a1:Int):Option Int:=
 cond a0 (some a1) (some 0)
def zek.k:Kq:=⟨93,(cvv [T6] [Ty.bool,T6] zek),go [] {} [] Proofs.Tryz.func93⟩
def zka (a0:Int) (a1:Int) (a2:Int):Option Bool:=
 (cond (decide (a1≤a0)) (some (decide (a0≤a2))) (some false)).bind fun g1=>some g1
def zka.k:Kq:=⟨158,(cvv [Ty.bool] [T6,T6,T6] zka),go [] {} [] Proofs.Tryz.func158⟩
def zbv.b0 (N:Nat) (s12:List zD) (s13:Int) (s14:Int) (b3:zK) (b4:zH):Option (Round Int ((List zD) × Int × Int × zK × zH)):=
 cond (decide (s14<s13)) ((idx s12 s14).bind fun x1001=>(zka x1001.Register 0 (w6 (b3.Registers-1))).bind fun r1002=>cond (!r1002)
  (some (.result 3)) ((zax N x1001.zF).bind fun r1003=>(cond (r1003 !=0) (some true) (some (x1001.zF.Kind==0))).bind fun g1004=>(cond g1004 (some true)
  (some (x1001.zF.Kind==4))).bind fun g1005=>cond g1005 (some (.result 17)) ((cond (x1001.Offset !=(-1)) ((zfq N x1001.zF).bind fun r1006=>
  (zka x1001.Offset 0 (w6 ((b4.Storage.Bytes.size:Int)-r1006))).bind fun r1007=>some (!r1007)) (some false)).bind fun g1008=>
  cond g1008 (some (.result 3)) (some (.again (s12,s13,(w6 (s14+1)),b3,b4)))))) (some (.leave (s12,s13,s14,b3,b4)))
def zbv.r0 (N:Nat) (x:(List zD) × Int × Int × zK × zH):=zbv.b0 N x.1 x.2.1 x.2.2.1 x.2.2.2.1 x.2.2.2.2
def zbv (N:Nat) (a0:zK) (a1:zH) (a2:List zD):Option Int:=
 cond (decide ((a2.length:Int)>60)) (some 2) ((zp (zbv.r0 N) N (a2,(a2.length:Int),0,a0,a1)).bind fun z2=>zbq z2 (fun z=>some z) (fun y1=>some 0))
def zbv.k (N:Nat):Kq:=⟨94,(cvv [T6] [Ty.zK,Ty.zH,(Ty.sl Ty.zD)] (zbv N)),go [zka.k,zax.k N,zfq.k N] {} [(0,.rets {slots:=[(3,.ptr 3 0),(4,.ptr 4 0),(12,.val (Ty.sl Ty.zD)),(13,.val T6),(14,.val T6)],boxes:=[(3,Ty.zK,[]),(4,Ty.zH,[])]} [(Ty.sl Ty.zD),T6,T6,Ty.zK,Ty.zH] (zp (zbv.r0 N) N))] Proofs.Tryz.func94 (hL:=⟨⟨_,_,rfl,by kernel_rfl⟩,trivial⟩)⟩
def zgq (N:Nat) (a0:zD) (a1:List zD):Option Bool:=
 (zbd N a1 a0).bind fun r1=>some (!r1)
def zgq.k (N:Nat):Kq:=⟨96,(ctv [.val Ty.zD,.ptr (Ty.sl Ty.zD) false []] [Ty.bool] [] [] [Ty.zD,(Ty.sl Ty.zD)] (zgq N)),go [zbd.k N] {ro:=[1000000],pk:=[1000000]} [] Proofs.Tryz.func96⟩
def zaa.b0 (N:Nat) (s0:List zD) (s7:Int) (s8:Int) (b1000000:List zD):Option (Round Int ((List zD) × Int × Int × (List zD))):=
 cond (decide (s8<s7)) ((idx s0 s8).bind fun x1001=>(zgq N x1001 b1000000).bind fun r1002=>cond r1002 (some (.result s8))
  (some (.again (s0,s7,(w6 (s8+1)),b1000000)))) (some (.leave (s0,s7,s8,b1000000)))
def zaa.r0 (N:Nat) (x:(List zD) × Int × Int × (List zD)):=zaa.b0 N x.1 x.2.1 x.2.2.1 x.2.2.2
def zaa (N:Nat) (a0:List zD) (a1:List zD):Option Int:=
 (zp (zaa.r0 N) N (a0,(a0.length:Int),0,a1)).bind fun z2=>zbq z2 (fun z=>some z) (fun y1=>some (-1))
def zaa.k (N:Nat):Kq:=⟨161,(ctv [.val (Ty.sl Ty.zD),.clo 96 1,.ptr (Ty.sl Ty.zD) false []] [T6] [] [] [(Ty.sl Ty.zD),(Ty.sl Ty.zD)] (zaa N)),go [zgq.k N] {ro:=[1000000],pk:=[1000000]} [(0,.rets {slots:=[(0,.val (Ty.sl Ty.zD)),(1,.fn 96 [1000000]),(7,.val T6),(8,.val T6)],boxes:=[(1000000,(Ty.sl Ty.zD),[])]} [(Ty.sl Ty.zD),T6,T6,(Ty.sl Ty.zD)] (zp (zaa.r0 N) N))] Proofs.Tryz.func161 (hL:=⟨⟨_,_,rfl,by kernel_rfl⟩,trivial⟩)⟩
def zc0 (N:Nat) (a0:List zD) (a1:List zD):Option Bool:=
 (zaa N a0 a1).bind fun r1=>some (decide (r1≥0))
def zc0.k (N:Nat):Kq:=⟨95,(ctv [.val (Ty.sl Ty.zD),.clo 96 1,.ptr (Ty.sl Ty.zD) false []] [Ty.bool] [] [] [(Ty.sl Ty.zD),(Ty.sl Ty.zD)] (zc0 N)),go [zaa.k N] {ro:=[1000000],pk:=[1000000]} [] Proofs.Tryz.func95⟩
def zd.b0 (N:Nat) (s2:List (List zD)) (s34:Int) (s35:Int) (b3:zK) (b4:zH):Option (Round (Int × Int) ((List (List zD)) × Int × Int × zK × zH)):=
 cond (decide (s35<s34)) ((idx s2 s35).bind fun x1001=>(zbv N b3 b4 x1001).bind fun r1002=>cond (r1002 !=0) (some (.result (s35,r1002)))
  (some (.again (s2,s34,(w6 (s35+1)),b3,b4)))) (some (.leave (s2,s34,s35,b3,b4)))
def zd.r0 (N:Nat) (x:(List (List zD)) × Int × Int × zK × zH):=zd.b0 N x.1 x.2.1 x.2.2.1 x.2.2.2.1 x.2.2.2.2
def zd.b4 (N:Nat) (s2:List (List zD)) (s11:List Bool) (s12:List Bool) (s56:Int) (s57:Int) (s93:List Int) (s94:Int) (s95:Int) (b4:zH) (b14:List zD):Option (Stp ((List (List zD)) × (List Bool) × (List Bool) × Int × Int × (List Int) × Int × Int × zH × (List zD))):=
 cond (decide (s95<s94)) ((idx s93 s95).bind fun x5001=>if 0≤x5001 then(if x5001<(s12.length:Int)then((s12[x5001.toNat]?).bind fun x5002=>(cond x5002 (some true)
  ((idx s2 x5001).bind fun x5003=>(zc0 N x5003 b14).bind fun r5004=>some r5004)).bind fun g5005=>
  if 0≤x5001 then(if x5001<(s12.length:Int)then((s12[x5001.toNat]?).bind fun x5006=>
  some (.again (s2,s11,(s12.set x5001.toNat g5005),s56,s57,s93,s94,(w6 (s95+1)),b4,b14)))else none)else none)else none)else none)
  (some (.leave (s2,s11,s12,s56,s57,s93,s94,s95,b4,b14)))
def zd.r4 (N:Nat) (x:(List (List zD)) × (List Bool) × (List Bool) × Int × Int × (List Int) × Int × Int × zH × (List zD)):=zd.b4 N x.1 x.2.1 x.2.2.1 x.2.2.2.1 x.2.2.2.2.1 x.2.2.2.2.2.1 x.2.2.2.2.2.2.1 x.2.2.2.2.2.2.2.1 x.2.2.2.2.2.2.2.2.1 x.2.2.2.2.2.2.2.2.2
def zd.b2 (N:Nat) (s2:List (List zD)) (s11:List Bool) (s12:List Bool) (s56:Int) (s57:Int) (b4:zH):Option (Stp ((List (List zD)) × (List Bool) × (List Bool) × Int × Int × zH)):=
 cond (decide (s57<s56)) (if 0≤s57 then(if s57<(s12.length:Int)then((s12[s57.toNat]?).bind fun x3001=>(cond x3001 (some true) ((idx s11 s57).bind fun x3002=>
  (cond x3002 ((idx s2 s57).bind fun x3003=>some (decide ((x3003.length:Int)>0))) (some false)).bind fun g3004=>some g3004)).bind fun g3005=>
  if 0≤s57 then(if s57<(s12.length:Int)then((s12[s57.toNat]?).bind fun x3006=>(idx b4.zB s57).bind fun x3007=>(idx s2 s57).bind fun x3008=>
  (zf8 N x3007 x3008).bind fun r3009=>(zdj b4 s57).bind fun r3010=>
  (zi (zd.r4 N) N (s2,s11,(s12.set s57.toNat g3005),s56,s57,r3010,(r3010.length:Int),0,b4,r3009)).bind fun y3011=>
  some (.again (y3011.1,y3011.2.1,y3011.2.2.1,y3011.2.2.2.1,(w6 (y3011.2.2.2.2.1+1)),y3011.2.2.2.2.2.2.2.2.1)))else none)else none)else none)else none)
  (some (.leave (s2,s11,s12,s56,s57,b4)))
def zd.r2 (N:Nat) (x:(List (List zD)) × (List Bool) × (List Bool) × Int × Int × zH):=zd.b2 N x.1 x.2.1 x.2.2.1 x.2.2.2.1 x.2.2.2.2.1 x.2.2.2.2.2
def zd (N:Nat) (a0:zK) (a1:zH) (a2:List (List zD)):Option (Int × Int):=
 (zcz N a0 a1).bind fun r1=>(zek ((a2.length:Int) !=(a1.zB.length:Int)) 6).bind fun r2=>
  (zbo N ([r1,r2]:List Int)).bind fun r3=>cond (r3 !=0) (some (0,r3)) ((zp (zd.r0 N) N (a2,(a2.length:Int),0,a0,a1)).bind fun z5=>
  zbq z5 (fun z=>some z) (fun y4=>(zy N y4.2.2.2.2).bind fun r6=>
  if 0≤(y4.1.length:Int)then(if(y4.1.length:Int)≤(y4.1.length:Int)then(cond (Nat.ble ((y4.1.length:Int).toNat*1) zae)
  ((zi (zd.r2 N) N (y4.1,r6,(List.replicate (y4.1.length:Int).toNat (false:Bool)),(y4.1.length:Int),0,y4.2.2.2.2)).bind fun y7=>
  (zao N y7.2.2.1 true).bind fun r8=>cond (decide (r8≥0)) (some (r8,42)) (some ((y7.1.length:Int),0))) none)else none)else none))
def zd.k (N:Nat):Kq:=⟨45,(cvv [T6,T6] [Ty.zK,Ty.zH,(Ty.sl (Ty.sl Ty.zD))] (zd N)),go [zcz.k N,zbo.k N,zy.k N,zf8.k N,zdj.k,zek.k,zbv.k N,zc0.k N,zao.k N] {lits:=[20,27,28]} [(0,.rets {slots:=[(2,.val (Ty.sl (Ty.sl Ty.zD))),(3,.ptr 3 0),(4,.ptr 4 0),(34,.val T6),(35,.val T6)],boxes:=[(3,Ty.zK,[]),(4,Ty.zH,[])]} [(Ty.sl (Ty.sl Ty.zD)),T6,T6,Ty.zK,Ty.zH] (zp (zd.r0 N) N)),(4,.plain {slots:=[(2,.val (Ty.sl (Ty.sl Ty.zD))),(4,.ptr 4 0),(11,.val (Ty.sl Ty.bool)),(12,.own 5000012 Ty.bool),(14,.ptr 14 0),(56,.val T6),(57,.val T6),(93,.val (Ty.sl T6)),(94,.val T6),(95,.val T6)],boxes:=[(4,Ty.zH,[]),(14,(Ty.sl Ty.zD),[])]} [(Ty.sl (Ty.sl Ty.zD)),(Ty.sl Ty.bool),(Ty.sl Ty.bool),T6,T6,(Ty.sl T6),T6,T6,Ty.zH,(Ty.sl Ty.zD)] (zi (zd.r4 N) N)),(2,.plain {slots:=[(2,.val (Ty.sl (Ty.sl Ty.zD))),(4,.ptr 4 0),(11,.val (Ty.sl Ty.bool)),(12,.own 5000012 Ty.bool),(56,.val T6),(57,.val T6)],boxes:=[(4,Ty.zH,[])]} [(Ty.sl (Ty.sl Ty.zD)),(Ty.sl Ty.bool),(Ty.sl Ty.bool),T6,T6,Ty.zH] (zi (zd.r2 N) N))] Proofs.Tryz.func45 (hL:=⟨⟨_,_,rfl,by kernel_rfl⟩,⟨_,_,rfl,by kernel_rfl⟩,⟨_,_,rfl,by kernel_rfl⟩,trivial⟩)⟩
def zbw.b0 (N:Nat) (s0:List Bool) (s1:List Bool) (s12:Int) (s13:Int):Option (Round Bool ((List Bool) × (List Bool) × Int × Int)):=
 cond (decide (s13<s12)) ((idx s0 s13).bind fun x1001=>(idx s1 s13).bind fun x1002=>cond (!(x1001==x1002)) (some (.result false))
  (some (.again (s0,s1,s12,(w6 (s13+1)))))) (some (.leave (s0,s1,s12,s13)))
def zbw.r0 (N:Nat) (x:(List Bool) × (List Bool) × Int × Int):=zbw.b0 N x.1 x.2.1 x.2.2.1 x.2.2.2
def zbw (N:Nat) (a0:List Bool) (a1:List Bool):Option Bool:=
 cond ((a0.length:Int) !=(a1.length:Int)) (some false) ((zp (zbw.r0 N) N (a0,a1,(a0.length:Int),0)).bind fun z2=>zbq z2 (fun z=>some z) (fun y1=>
  some true))
def zbw.k (N:Nat):Kq:=⟨46,(cvv [Ty.bool] [(Ty.sl Ty.bool),(Ty.sl Ty.bool)] (zbw N)),go [] {} [(0,.rets {slots:=[(0,.val (Ty.sl Ty.bool)),(1,.val (Ty.sl Ty.bool)),(12,.val T6),(13,.val T6)],boxes:=[]} [(Ty.sl Ty.bool),(Ty.sl Ty.bool),T6,T6] (zp (zbw.r0 N) N))] Proofs.Tryz.func46 (hL:=⟨⟨_,_,rfl,by kernel_rfl⟩,trivial⟩)⟩
def zj9 (N:Nat) (a0:List zD) (a1:zA) (a2:zA) (a3:List Int):Option Bool:=
 (zf7 a1 a3).bind fun r1=>
  cond (zdq [(a2.Op==r1.Op),(a2.R==r1.R),(a2.A==r1.A),(a2.B==r1.B),(a2.zM==r1.zM),(a2.Place.Based==r1.Place.Based),(a2.Place.Pointer==r1.Place.Pointer),(a2.Place.Offset==r1.Place.Offset),(a2.From.Based==r1.From.Based),(a2.From.Pointer==r1.From.Pointer),(a2.From.Offset==r1.From.Offset),(a2.zF.Kind==r1.zF.Kind),(a2.zF.Length==r1.zF.Length),(a2.zF.Scale==r1.zF.Scale),(a2.Second.Kind==r1.Second.Kind),(a2.Second.Length==r1.Second.Length),(a2.Second.Scale==r1.Second.Scale),(a2.Half==r1.Half),(a2.zO==r1.zO),(a2.Number.N==r1.Number.N),(a2.Number.Scale==r1.Number.Scale),(a2.Text==r1.Text),(a2.Other==r1.Other),(a2.Mask==r1.Mask),(a2.Target==r1.Target),(a2.Pointer==r1.Pointer),(a2.Source==r1.Source)])
  (some true) ((zcc a1).bind fun r2=>
  (cond r2 (some (zdq [(a2.Op==3),(a2.R==a1.R),(a2.A==a2.A),(a2.B==0),(a2.zM==0),(a2.Place.Based==false),(a2.Place.Pointer==0),(a2.Place.Offset==0),(a2.From.Based==false),(a2.From.Pointer==0),(a2.From.Offset==0),(a2.zF.Kind==0),(a2.zF.Length==0),(a2.zF.Scale==0),(a2.Second.Kind==0),(a2.Second.Length==0),(a2.Second.Scale==0),(a2.Half==false),(a2.zO==false),(a2.Number.N==0),(a2.Number.Scale==0),(a2.Text==(⟨#[]⟩:ByteArray)),(a2.Other==(⟨#[]⟩:ByteArray)),(a2.Mask==0),(a2.Target==0),(a2.Pointer==0),(a2.Source==0)]))
  (some false)).bind fun g3=>(cond g3 ((zdr N a0 a1 a2.A).bind fun r4=>some r4) (some false)).bind fun g5=>some g5)
def zj9.k (N:Nat):Kq:=⟨99,(cvv [Ty.bool] [(Ty.sl Ty.zD),Ty.zA,Ty.zA,(Ty.sl T6)] (zj9 N)),go [zcc.k,zdr.k N,zf7.k] {} [] Proofs.Tryz.func99⟩
def zh3 (N:Nat) (a0:Optimization) (a1:Int) (a2:List Int):Option Int:=
 (idx a0.Before.zB a1).bind fun x1=>(idx a0.Proof.Index a1).bind fun x2=>(idx a0.Proof.Facts a1).bind fun x3=>(idx a2 a1).bind fun x4=>(cond (x2==x4)
  (some (decide (x2<(a0.After.zB.length:Int)))) (some false)).bind fun g5=>cond (x2==(-1))
  ((cond (!(a1==(w6 ((a0.Before.zB.length:Int)-1)))) ((zcc x1).bind fun r6=>some r6) (some false)).bind fun g7=>
  (cond g7 ((zdr N x3 x1 x1.R).bind fun r8=>some r8) (some false)).bind fun g9=>(zek (!g9) 42).bind fun r10=>some r10)
  (cond g5 ((idx a0.After.zB x2).bind fun x11=>(zj9 N x3 x1 x11 a2).bind fun r12=>(zek (!r12) 42).bind fun r13=>some r13)
  ((zek (!g5) 42).bind fun r14=>some r14))
def zh3.k (N:Nat):Kq:=⟨48,(cvv [T6] [Ty.Optimization,T6,(Ty.sl T6)] (zh3 N)),go [zcc.k,zdr.k N,zek.k,zj9.k N] {} [] Proofs.Tryz.func48⟩
def zal.b0 (N:Nat) (s0:List zT) (s1:List zT) (s12:Int) (s13:Int):Option (Round Bool ((List zT) × (List zT) × Int × Int)):=
 cond (decide (s13<s12)) ((idx s0 s13).bind fun x1001=>(idx s1 s13).bind fun x1002=>
  cond (!(zdq [(x1001.From==x1002.From),(x1001.To==x1002.To),(x1001.Exception==x1002.Exception),(x1001.Handler==x1002.Handler)])) (some (.result false))
  (some (.again (s0,s1,s12,(w6 (s13+1)))))) (some (.leave (s0,s1,s12,s13)))
def zal.r0 (N:Nat) (x:(List zT) × (List zT) × Int × Int):=zal.b0 N x.1 x.2.1 x.2.2.1 x.2.2.2
def zal (N:Nat) (a0:List zT) (a1:List zT):Option Bool:=
 cond ((a0.length:Int) !=(a1.length:Int)) (some false) ((zp (zal.r0 N) N (a0,a1,(a0.length:Int),0)).bind fun z2=>zbq z2 (fun z=>some z)
  (fun y1=>some true))
def zal.k (N:Nat):Kq:=⟨49,(cvv [Ty.bool] [(Ty.sl Ty.zT),(Ty.sl Ty.zT)] (zal N)),go [] {} [(0,.rets {slots:=[(0,.val (Ty.sl Ty.zT)),(1,.val (Ty.sl Ty.zT)),(12,.val T6),(13,.val T6)],boxes:=[]} [(Ty.sl Ty.zT),(Ty.sl Ty.zT),T6,T6] (zp (zal.r0 N) N))] Proofs.Tryz.func49 (hL:=⟨⟨_,_,rfl,by kernel_rfl⟩,trivial⟩)⟩
def zac.b0 (N:Nat) (s8:Int) (s9:List Int) (s80:Int) (s81:Int) (b1:Optimization):Option (Round (Int × Int) (Int × (List Int) × Int × Int × Optimization)):=
 cond (decide (s81<s80)) ((zh3 N b1 s81 s9).bind fun r1001=>cond (r1001 !=0) (some (.result (s81,r1001)))
  (some (.again (s8,s9,s80,(w6 (s81+1)),b1)))) (some (.leave (s8,s9,s80,s81,b1)))
def zac.r0 (N:Nat) (x:Int × (List Int) × Int × Int × Optimization):=zac.b0 N x.1 x.2.1 x.2.2.1 x.2.2.2.1 x.2.2.2.2
def zac (N:Nat) (a0:Optimization):Option (Int × Int):=
 (zcz N a0.Model a0.Before).bind fun r1=>(zcz N a0.Model a0.After).bind fun r2=>(zbo N ([r1,r2]:List Int)).bind fun r3=>
  cond (r3 !=0) (some (0,r3)) ((zd N a0.Model a0.Before a0.Proof.Facts).bind fun r4=>cond (r4.2 !=0) (some (r4.1,r4.2))
  ((cond (a0.Before.Storage.Bytes.toList==a0.After.Storage.Bytes.toList) ((zbw N a0.Before.Storage.Tags a0.After.Storage.Tags).bind fun r5=>some r5)
  (some false)).bind fun g6=>(cond ((a0.Proof.Index.length:Int) !=(a0.Before.zB.length:Int)) (some true) (some (!g6))).bind fun g7=>cond g7 (some (0,6))
  ((zb0 N a0.Proof.Index).bind fun r8=>
  (zp (zac.r0 N) N ((a0.Before.zB.length:Int),r8,(a0.Before.zB.length:Int),0,a0)).bind fun z10=>zbq z10 (fun z=>some z)
  (fun y9=>(idx y9.2.1 y9.1).bind fun x11=>(cond ((y9.2.2.2.2.After.zB.length:Int) !=x11) (some true)
  ((zbz N y9.2.2.2.2.Before.zQ y9.2.1).bind fun r12=>(zal N y9.2.2.2.2.After.zQ r12).bind fun r13=>some (!r13))).bind fun g14=>
  cond g14 (some (0,42)) (some (y9.1,0))))))
def zac.k (N:Nat):Kq:=⟨19,(cvv [T6,T6] [Ty.Optimization] (zac N)),go [zcz.k N,zbo.k N,zd.k N,zbw.k N,zb0.k N,zh3.k N,zal.k N,zbz.k N] {lits:=[16,21,22,110]} [(0,.rets {slots:=[(1,.ptr 1 0),(8,.val T6),(9,.val (Ty.sl T6)),(80,.val T6),(81,.val T6)],boxes:=[(1,Ty.Optimization,[])]} [T6,(Ty.sl T6),T6,T6,Ty.Optimization] (zp (zac.r0 N) N))] Proofs.Tryz.func19 (hL:=⟨⟨_,_,rfl,by kernel_rfl⟩,trivial⟩)⟩
def zge (N:Nat) (a0:zK) (a1:zH):Option Int:=
 (zj N a0 a1).bind fun r1=>some r1.2
def zge.k (N:Nat):Kq:=⟨101,(cvv [T6] [Ty.zK,Ty.zH] (zge N)),go [zj.k N] {} [] Proofs.Tryz.func101⟩
def zj3 (N:Nat) (a0:zK) (a1:zH):Option (zC × Int):=
 (zge N a0 a1).bind fun r1=>cond (r1 !=0) (some ((⟨[],0,(⟨(⟨#[]⟩:ByteArray),[]⟩:Storage),0,[],[],0,0,0,0⟩:zC),r1))
  ((zc6 1 a1.Storage.Tags).bind fun r2=>if 0≤a0.Registers then(if a0.Registers≤a0.Registers then(cond (Nat.ble (a0.Registers.toNat*16) zae)
  (some ((⟨(List.replicate a0.Registers.toNat ((⟨0,0⟩:Number):Number)),0,(⟨a1.Storage.Bytes,r2⟩:Storage),0,[],[],0,0,0,0⟩:zC),0)) none)else none)else none)
def zj3.k (N:Nat):Kq:=⟨52,(cvv [Ty.zC,T6] [Ty.zK,Ty.zH] (zj3 N)),go [x58.k,zge.k N] {} [] Proofs.Tryz.func52⟩
def zi0 (N:Nat) (a0:Storage) (a1:Int):Option Int:=
 (zq N a0).bind fun r1=>cond (r1.2 !=0) (some r1.2) ((cond (decide (a1<0)) (some true) (some (decide (a1≥(a0.Bytes.size:Int))))).bind fun g2=>
  (cond g2 (some true) (some ((a1.tmod 16) !=0))).bind fun g3=>cond g3 (some 3) (some 0))
def zi0.k (N:Nat):Kq:=⟨307,(cvv [T6] [Ty.Storage,T6] (zi0 N)),go [zq.k N] {} [] Proofs.Tryz.func307⟩
def zf9 (N:Nat) (a0:Storage) (a1:Int):Option (Pointer × Int):=
 (zi0 N a0 a1).bind fun r1=>cond (r1 !=0) (some ((⟨0,(⟨0,0⟩:Address),0⟩:Pointer),r1)) ((idx a0.Tags (w6 (a1.tdiv 16))).bind fun x2=>cond (!x2)
  (some ((⟨0,(⟨0,0⟩:Address),0⟩:Pointer),22))
  (if 0≤(w6 (a1+16))∧(w6 (a1+16))≤(a0.Bytes.size:Int)then(if 0≤a1∧a1≤(w6 (a1+16))then((zea N (a0.Bytes.extract a1.toNat (w6 (a1+16)).toNat)).bind fun r3=>
  some (r3.1,r3.2))else none)else none))
def zf9.k (N:Nat):Kq:=⟨309,(cvv [Ty.Pointer,T6] [Ty.Storage,T6] (zf9 N)),go [zea.k N,zi0.k N] {} [] Proofs.Tryz.func309⟩
def zh (a0:zG) (a1:Bool) (a2:Int):Option (Bool × zG):=
 (cond a1 (some (a0.raised==0)) (some false)).bind fun g1=>cond g1 (some ((a2==0),(⟨a0.zC,a0.code,a2⟩:zG))) (some ((a0.raised==0),a0))
def zh.k:Kq:=⟨234,(ctv [.ptr Ty.zG true [],.val Ty.bool,.val T6] [Ty.bool] [Ty.zG] [] [Ty.zG,Ty.bool,T6] zh),go [] {pk:=[1000000]} [] Proofs.Tryz.func234⟩
def zbf (N:Nat) (a0:zG) (a1:Int):Option (Pointer × Bool × zG):=
 (zf9 N a0.zC.Storage a1).bind fun r1=>(zh a0 (r1.2 !=0) 4).bind fun r2=>some (r1.1,r2.1,r2.2)
def zbf.k (N:Nat):Kq:=⟨246,(ctv [.ptr Ty.zG true [],.val T6] [Ty.Pointer,Ty.bool] [Ty.zG] [] [Ty.zG,T6] (zbf N)),go [zh.k,zf9.k N] {pk:=[1000000]} [] Proofs.Tryz.func246⟩
def zbp (N:Nat) (a0:zG) (a1:zN) (a2:Int):Option (Int × Bool × zG):=
 cond (!a1.Based) (some (a1.Offset,true,a0)) ((zbf N a0 a1.Pointer).bind fun r1=>cond (!r1.2.1) (some (0,false,r1.2.2))
  ((zh r1.2.2 (decide ((w6 (r1.1.Address.Offset+a1.Offset))>(w6 ((r1.2.2.zC.Storage.Bytes.size:Int)-a2)))) 5).bind fun r2=>
  some ((w6 (r1.1.Address.Offset+a1.Offset)),r2.1,r2.2)))
def zbp.k (N:Nat):Kq:=⟨243,(ctv [.ptr Ty.zG true [],.val Ty.zN,.val T6] [T6,Ty.bool] [Ty.zG] [] [Ty.zG,Ty.zN,T6] (zbp N)),go [zh.k,zbf.k N] {pk:=[1000000]} [] Proofs.Tryz.func243⟩
def zaf (N:Nat) (a0:zG) (a1:zN) (a2:DataType):Option (ByteArray × Bool × zG):=
 (zfm N a2).bind fun r1=>(zbp N a0 a1 r1).bind fun r2=>cond (!r2.2.1) (some ((⟨#[]⟩:ByteArray),false,r2.2.2))
  (if 0≤(w6 (r2.1+r1))∧(w6 (r2.1+r1))≤(r2.2.2.zC.Storage.Bytes.size:Int)then(if 0≤r2.1∧r2.1≤(w6 (r2.1+r1))then(some ((r2.2.2.zC.Storage.Bytes.extract r2.1.toNat (w6 (r2.1+r1)).toNat),true,r2.2.2))else none)else none)
def zaf.k (N:Nat):Kq:=⟨232,(ctv [.ptr Ty.zG true [],.val Ty.zN,.val Ty.DataType] [Ty.str,Ty.bool] [Ty.zG] [] [Ty.zG,Ty.zN,Ty.DataType] (zaf N)),go [zbp.k N,zfm.k N] {pk:=[1000000]} [] Proofs.Tryz.func232⟩
def zco.b0 (N:Nat) (s3:Int) (s12:List Int) (s13:Int) (s14:Int):Option (Stp (Int × (List Int) × Int × Int)):=
 cond (decide (s14<s13)) (if 0≤s14 then(if s14<(s12.length:Int)then((s12[s14.toNat]?).bind fun x1001=>
  some (.again ((orI .i64 (w6 (s3*2^(min (8:Int).toNat 64))) (w6 x1001)),s12,s13,(w6 (s14+1)))))else none)else none)
  (some (.leave (s3,s12,s13,s14)))
def zco.r0 (N:Nat) (x:Int × (List Int) × Int × Int):=zco.b0 N x.1 x.2.1 x.2.2.1 x.2.2.2
def zco (N:Nat) (a0:ByteArray):Option Int:=
 (znh a0 0).bind fun x1=>
  if 0≤(1:Int)∧(1:Int)≤(a0.size:Int)then((zi (zco.r0 N) N ((w6 (IntKind.wrap .i8 (x1.toNat:Int))),(zjc (a0.extract (1:Int).toNat a0.size)),((zjc (a0.extract (1:Int).toNat a0.size)).length:Int),0)).bind fun y2=>
  some y2.1)else none
def zco.k (N:Nat):Kq:=⟨297,(cvv [T6] [Ty.str] (zco N)),go [] {} [(0,.plain {slots:=[(3,.val T6),(12,.own 5000012 (Ty.int .u8)),(13,.val T6),(14,.val T6)],boxes:=[]} [T6,(Ty.sl (Ty.int .u8)),T6,T6] (zi (zco.r0 N) N))] Proofs.Tryz.func297 (hL:=⟨⟨_,_,rfl,by kernel_rfl⟩,trivial⟩)⟩
def zbr.b0 (N:Nat) (s1:ByteArray) (s4:List Int) (s5:List Int) (s10:Int) (s11:Int) (b2:DataType):Option (Stp (ByteArray × (List Int) × (List Int) × Int × Int × DataType)):=
 cond (decide (s11<s10)) ((znh s1 s11).bind fun x1001=>(znh s1 s11).bind fun x1002=>cond (b2.Kind==1)
  (cond (Nat.ble ((s4.length+([((x1001.toNat:Int).fdiv (2^(min (4:Int).toNat 8))),(zg .u8 (x1002.toNat:Int) 15)]:List Int).length)*1) zae)
  (cond (Nat.ble ((s5.length+([s11,s11]:List Int).length)*8) zae)
  (some (.again (s1,(s4++([((x1001.toNat:Int).fdiv (2^(min (4:Int).toNat 8))),(zg .u8 (x1002.toNat:Int) 15)]:List Int)),(s5++([s11,s11]:List Int)),s10,(w6 (s11+1)),b2))) none) none)
  (cond (Nat.ble ((s4.length+([(zg .u8 (x1002.toNat:Int) 15)]:List Int).length)*1) zae) (cond (Nat.ble ((s5.length+([s11]:List Int).length)*8) zae)
  (some (.again (s1,(s4++([(zg .u8 (x1002.toNat:Int) 15)]:List Int)),(s5++([s11]:List Int)),s10,(w6 (s11+1)),b2))) none) none))
  (some (.leave (s1,s4,s5,s10,s11,b2)))
def zbr.r0 (N:Nat) (x:ByteArray × (List Int) × (List Int) × Int × Int × DataType):=zbr.b0 N x.1 x.2.1 x.2.2.1 x.2.2.2.1 x.2.2.2.2.1 x.2.2.2.2.2
def zbr (N:Nat) (a0:DataType) (a1:ByteArray):Option ((List Int) × (List Int)):=
 (zi (zbr.r0 N) N (a1,[],[],(a1.size:Int),0,a0)).bind fun y1=>cond (y1.2.2.2.2.2.Kind==2)
  ((znh y1.1 (w6 ((y1.1.size:Int)-1))).bind fun x2=>
  cond (Nat.ble ((y1.2.1.length+([((x2.toNat:Int).fdiv (2^(min (4:Int).toNat 8)))]:List Int).length)*1) zae)
  (cond (Nat.ble ((y1.2.2.1.length+([(w6 ((y1.1.size:Int)-1))]:List Int).length)*8) zae)
  (some ((y1.2.1++([((x2.toNat:Int).fdiv (2^(min (4:Int).toNat 8)))]:List Int)),(y1.2.2.1++([(w6 ((y1.1.size:Int)-1))]:List Int)))) none) none)
  (some (y1.2.1,y1.2.2.1))
def zbr.k (N:Nat):Kq:=⟨322,(cvv [(Ty.sl (Ty.int .u8)),(Ty.sl T6)] [Ty.DataType,Ty.str] (zbr N)),go [] {lits:=[24,28,37,42,55,61]} [(0,.plain {slots:=[(1,.val Ty.str),(2,.ptr 2 0),(4,.own 5000004 (Ty.int .u8)),(5,.own 5000005 T6),(10,.val T6),(11,.val T6)],boxes:=[(2,Ty.DataType,[])]} [Ty.str,(Ty.sl (Ty.int .u8)),(Ty.sl T6),T6,T6,Ty.DataType] (zi (zbr.r0 N) N))] Proofs.Tryz.func322 (hL:=⟨⟨_,_,rfl,by kernel_rfl⟩,trivial⟩)⟩
def zcg.b0 (N:Nat) (s7:List Int) (s8:List Int) (s9:Int) (s10:Int) (s24:List Int) (s25:Int) (s26:Int) (b2:DataType):Option (Round (Int × Int × Int) ((List Int) × (List Int) × Int × Int × (List Int) × Int × Int × DataType)):=
 cond (decide (s26<s25)) ((idx s24 s26).bind fun x1001=>(cond (decide (x1001>9)) (some true) ((cond (decide (x1001>0))
  (some (decide (s26<(w6 (s9-b2.Length))))) (some false)).bind fun g1002=>some g1002)).bind fun g1003=>cond g1003 ((idx s8 s26).bind fun x1004=>
  some (.result (0,x1004,21)))
  (some (.again (s7,s8,s9,(w6 ((w6 (s10*10))+(w6 x1001))),s24,s25,(w6 (s26+1)),b2))))
  (some (.leave (s7,s8,s9,s10,s24,s25,s26,b2)))
def zcg.r0 (N:Nat) (x:(List Int) × (List Int) × Int × Int × (List Int) × Int × Int × DataType):=zcg.b0 N x.1 x.2.1 x.2.2.1 x.2.2.2.1 x.2.2.2.2.1 x.2.2.2.2.2.1 x.2.2.2.2.2.2.1 x.2.2.2.2.2.2.2
def zcg (N:Nat) (a0:DataType) (a1:ByteArray):Option (Int × Int × Int):=
 (zbr N a0 a1).bind fun r1=>
  if 0≤(w6 ((r1.1.length:Int)-1))∧(w6 ((r1.1.length:Int)-1))≤(r1.1.length:Int)then(if 0≤(0:Int)∧(0:Int)≤(w6 ((r1.1.length:Int)-1))then((zp (zcg.r0 N) N (r1.1,r1.2,(w6 ((r1.1.length:Int)-1)),0,((r1.1.take (w6 ((r1.1.length:Int)-1)).toNat).drop (0:Int).toNat),(((r1.1.take (w6 ((r1.1.length:Int)-1)).toNat).drop (0:Int).toNat).length:Int),0,a0)).bind fun z3=>
  zbq z3 (fun z=>some z) (fun y2=>(idx y2.1 y2.2.2.1).bind fun x4=>cond (decide (x4<10)) ((idx y2.2.1 y2.2.2.1).bind fun x5=>some (0,x5,21))
  ((idx y2.1 y2.2.2.1).bind fun x6=>(cond (x6==11) (some true) ((idx y2.1 y2.2.2.1).bind fun x7=>some (x7==13))).bind fun g8=>
  cond g8 (some ((w6 (0-y2.2.2.2.1)),0,0)) (some (y2.2.2.2.1,0,0)))))else none)else none
def zcg.k (N:Nat):Kq:=⟨298,(cvv [T6,T6,T6] [Ty.DataType,Ty.str] (zcg N)),go [zbr.k N] {} [(0,.rets {slots:=[(2,.ptr 2 0),(7,.val (Ty.sl (Ty.int .u8))),(8,.val (Ty.sl T6)),(9,.val T6),(10,.val T6),(24,.val (Ty.sl (Ty.int .u8))),(25,.val T6),(26,.val T6)],boxes:=[(2,Ty.DataType,[])]} [(Ty.sl (Ty.int .u8)),(Ty.sl T6),T6,T6,(Ty.sl (Ty.int .u8)),T6,T6,Ty.DataType] (zp (zcg.r0 N) N))] Proofs.Tryz.func298 (hL:=⟨⟨_,_,rfl,by kernel_rfl⟩,trivial⟩)⟩
def zij (N:Nat) (a0:DataType) (a1:ByteArray):Option (Value × Int × Int):=
 (zax N a0).bind fun r1=>(za5 (a0.Kind==4) 17).bind fun r2=>(zab N ([r1,r2]:List Int)).bind fun r3=>cond (r3==0)
  ((zg9 a0).bind fun r4=>(za5 ((a1.size:Int) !=r4) 18).bind fun r5=>cond (r5 !=0) (some ((⟨0,(⟨#[]⟩:ByteArray)⟩:Value),0,r5)) (cond (a0.Kind==0)
  (some ((⟨0,a1⟩:Value),0,0)) (cond (a0.Kind==3) ((zco N a1).bind fun r6=>(zc9 N a0 (⟨r6,(⟨#[]⟩:ByteArray)⟩:Value)).bind fun r7=>
  cond (r7 !=0) (some ((⟨0,(⟨#[]⟩:ByteArray)⟩:Value),0,r7)) (some ((⟨r6,(⟨#[]⟩:ByteArray)⟩:Value),0,0))) ((zcg N a0 a1).bind fun r8=>
  some ((⟨r8.1,(⟨#[]⟩:ByteArray)⟩:Value),r8.2.1,r8.2.2))))) (cond (r3 !=0) (some ((⟨0,(⟨#[]⟩:ByteArray)⟩:Value),0,r3)) (cond (a0.Kind==0)
  (some ((⟨0,a1⟩:Value),0,0)) (cond (a0.Kind==3) ((zco N a1).bind fun r9=>(zc9 N a0 (⟨r9,(⟨#[]⟩:ByteArray)⟩:Value)).bind fun r10=>
  cond (r10 !=0) (some ((⟨0,(⟨#[]⟩:ByteArray)⟩:Value),0,r10)) (some ((⟨r9,(⟨#[]⟩:ByteArray)⟩:Value),0,0))) ((zcg N a0 a1).bind fun r11=>
  some ((⟨r11.1,(⟨#[]⟩:ByteArray)⟩:Value),r11.2.1,r11.2.2)))))
def zij.k (N:Nat):Kq:=⟨233,(cvv [Ty.Value,T6,T6] [Ty.DataType,Ty.str] (zij N)),go [zax.k N,zc9.k N,zab.k N,za5.k,zg9.k,zco.k N,zcg.k N] {lits:=[13,17,18]} [] Proofs.Tryz.func233⟩
def zcb (N:Nat) (a0:zG) (a1:zN) (a2:DataType):Option (Number × Bool × zG):=
 (zaf N a0 a1 a2).bind fun r1=>cond (!r1.2.1) (some ((⟨0,0⟩:Number),false,r1.2.2)) ((zij N a2 r1.1).bind fun r2=>
  (zh r1.2.2 (r2.2.2 !=0) 1).bind fun r3=>some ((⟨r2.1.N,a2.Scale⟩:Number),r3.1,r3.2))
def zcb.k (N:Nat):Kq:=⟨163,(ctv [.ptr Ty.zG true [],.val Ty.zN,.val Ty.DataType] [Ty.Number,Ty.bool] [Ty.zG] [] [Ty.zG,Ty.zN,Ty.DataType] (zcb N)),go [zaf.k N,zij.k N,zh.k] {pk:=[1000000]} [] Proofs.Tryz.func163⟩
def z2p:Ct U:={params:=[.val (Ty.sl Ty.Number)],results:=[(Ty.sl Ty.Number)],outs:=[],fresh:=[0],fn:=app U [(Ty.sl Ty.Number)] (R:=PT U [(Ty.sl Ty.Number)]) (zc6 16)}
theorem z2p.meets:zif (zpo [] [] [] [] [] [] [] []) 235 z2p:=
 zn6 zwm (zun (l:=[]) rfl all_nil) (zuf (l:=[]) rfl all_nil) (Lp:=pick []) Proofs.Tryz.func235 (by kernel_rfl) (zuq (l:=[]) rfl all_nil) (fun y=>by kernel_rfl) (e:=54) (t:=Ty.Number) rfl rfl rfl rfl rfl rfl rfl (by kernel_rfl) rfl rfl rfl rfl rfl rfl (fun xs=>by kernel_rfl) fun ds y h=>by
  obtain⟨xs,rfl,hx⟩:=zyr h;refine⟨xs,rfl,fun b hb=> ?_⟩;cases b with
  | true=>
   have:=hb rfl;subst this;exact Eq.trans (by kernel_rfl) hx
  | false=>exact Eq.trans (b:=cond (Nat.ble ((0+xs.length)*16) zae) (some xs) none) (by kernel_rfl) (by rw [Nat.zero_add];exact hx)
def z2p.k:Kq:=⟨235,z2p,z2p.meets⟩
def zap (a0:zG) (a1:Int) (a2:Number):Option zG:=
 (zc6 16 a0.zC.Registers).bind fun r1=>if 0≤a1 then(if a1<(r1.length:Int)then((r1[a1.toNat]?).bind fun x2=>
  some (⟨(⟨(r1.set a1.toNat a2),a0.zC.Condition,a0.zC.Storage,a0.zC.At,a0.zC.Stack,a0.zC.Lines,a0.zC.Status,a0.zC.Exception,a0.zC.Marks,a0.zC.Steps⟩:zC),a0.code,a0.raised⟩:zG))else none)else none
def zap.k:Kq:=⟨164,(ctv [.ptr Ty.zG true [],.val T6,.val Ty.Number] [] [Ty.zG] [] [Ty.zG,T6,Ty.Number] zap),go [z2p.k] {pk:=[1000000]} [] Proofs.Tryz.func164⟩
def zft (a0:DataType):Option Bool:=
 (cond (a0.Kind==1) (some true) (some (a0.Kind==2))).bind fun g1=>(cond g1 (some true) (some (a0.Kind==3))).bind fun g2=>some g2
def zft.k:Kq:=⟨299,(cvv [Ty.bool] [Ty.DataType] zft),go [] {} [] Proofs.Tryz.func299⟩
def zb7 (a0:Int):Option zJ:=
 some (⟨a0,0,0,0⟩:zJ)
def zb7.k:Kq:=⟨324,(cvv [Ty.zJ] [(Ty.int .u64)] zb7),go [] {} [] Proofs.Tryz.func324⟩
def za7.b0 (N:Nat) (s1:Int) (s6:Int) (s12:Int) (b2:zJ) (b4:zJ) (b5:zJ):Option (Stp (Int × Int × Int × zJ × zJ × zJ)):=
 cond (decide (s12<4)) (if 0≤s12 then(if s12<4 then((zd9 (zbk [b2.e0,b2.e1,b2.e2,b2.e3] s12.toNat) s1).bind fun r1001=>
  if 0≤s12 then(if s12<4 then(some (.again (s1,(IntKind.wrap .u64 (r1001.1+(((r1001.2.toNat+s6.toNat+(0:Int).toNat)/2^64:Nat):Int))),(w6 (s12+1)),b2,b4,(⟨(if s12.toNat=0 then(((r1001.2.toNat+s6.toNat+(0:Int).toNat)%2^64:Nat):Int)else b5.e0),(if s12.toNat=1 then(((r1001.2.toNat+s6.toNat+(0:Int).toNat)%2^64:Nat):Int)else b5.e1),(if s12.toNat=2 then(((r1001.2.toNat+s6.toNat+(0:Int).toNat)%2^64:Nat):Int)else b5.e2),(if s12.toNat=3 then(((r1001.2.toNat+s6.toNat+(0:Int).toNat)%2^64:Nat):Int)else b5.e3)⟩:zJ))))else none)else none)else none)else none)
  (some (.leave (s1,s6,s12,b2,b4,b5)))
def za7.r0 (N:Nat) (x:Int × Int × Int × zJ × zJ × zJ):=za7.b0 N x.1 x.2.1 x.2.2.1 x.2.2.2.1 x.2.2.2.2.1 x.2.2.2.2.2
def za7 (N:Nat) (a0:zJ) (a1:Int):Option zJ:=
 (zi (za7.r0 N) N (a1,0,0,a0,(⟨0,0,0,0⟩:zJ),(⟨0,0,0,0⟩:zJ))).bind fun y1=>some y1.2.2.2.2.2
def za7.k (N:Nat):Kq:=⟨346,(cvv [Ty.zJ] [Ty.zJ,(Ty.int .u64)] (za7 N)),go [zd9.k] {X:=[(348,0)]} [(0,.plain {slots:=[(1,.val (Ty.int .u64)),(2,.ptr 2 0),(4,.ptr 4 0),(5,.ptr 5 0),(6,.val (Ty.int .u64)),(12,.val T6)],boxes:=[(2,Ty.zJ,[]),(4,Ty.zJ,[]),(5,Ty.zJ,[])]} [(Ty.int .u64),(Ty.int .u64),T6,Ty.zJ,Ty.zJ,Ty.zJ] (zi (za7.r0 N) N))] Proofs.Tryz.func346 (hL:=⟨⟨_,_,rfl,by kernel_rfl⟩,trivial⟩) (hX:=all_cons (zafj) (all_nil))⟩
def zk.b0 (N:Nat) (s5:Int) (s6:Int) (b2:zJ) (b4:zJ):Option (Stp (Int × Int × zJ × zJ)):=
 cond (decide (s6<s5)) ((za7 N b2 10).bind fun r1001=>some (.again (s5,(w6 (s6+1)),r1001,b4))) (some (.leave (s5,s6,b2,b4)))
def zk.r0 (N:Nat) (x:Int × Int × zJ × zJ):=zk.b0 N x.1 x.2.1 x.2.2.1 x.2.2.2
def zk (N:Nat) (a0:zJ) (a1:Int):Option zJ:=
 (zi (zk.r0 N) N (a1,0,a0,(⟨0,0,0,0⟩:zJ))).bind fun y1=>some y1.2.2.1
def zk.k (N:Nat):Kq:=⟨325,(cvv [Ty.zJ] [Ty.zJ,T6] (zk N)),go [za7.k N] {} [(0,.plain {slots:=[(2,.ptr 2 0),(4,.ptr 4 0),(5,.val T6),(6,.val T6)],boxes:=[(2,Ty.zJ,[]),(4,Ty.zJ,[])]} [T6,T6,Ty.zJ,Ty.zJ] (zi (zk.r0 N) N))] Proofs.Tryz.func325 (hL:=⟨⟨_,_,rfl,by kernel_rfl⟩,trivial⟩)⟩
def zdt (N:Nat) (a0:Number) (a1:Int):Option zJ:=
 (zb7 (IntKind.wrap .u64 (if(w6 (0-a0.N))>a0.N then(w6 (0-a0.N))else a0.N))).bind fun r1=>
  (zk N r1 a1).bind fun r2=>some r2
def zdt.k (N:Nat):Kq:=⟨323,(cvv [Ty.zJ] [Ty.Number,T6] (zdt N)),go [zb7.k,zk.k N] {lits:=[12]} [] Proofs.Tryz.func323⟩
def zpn (N:Nat) (a0:Number):Option zV:=
 (zdt N a0 0).bind fun r1=>(zb7 1).bind fun r2=>(zk N r2 a0.Scale).bind fun r3=>some (⟨(decide (a0.N<0)),r1,r3⟩:zV)
def zpn.k (N:Nat):Kq:=⟨300,(cvv [Ty.zV] [Ty.Number] (zpn N)),go [zdt.k N,zb7.k,zk.k N] {lits:=[8]} [] Proofs.Tryz.func300⟩
def zaj.b0 (N:Nat) (s6:Int) (s8:Int) (b2:zJ) (b3:zJ) (b4:zJ) (b5:zJ):Option (Stp (Int × Int × zJ × zJ × zJ × zJ)):=
 cond (decide (s8<4))
  (if 0≤s8 then(if s8<4 then(if 0≤s8 then(if s8<4 then(if s6.toNat>1 then none else if 0≤s8 then(if s8<4 then(some (.again (((((zbk [b2.e0,b2.e1,b2.e2,b2.e3] s8.toNat).toNat+(zbk [b3.e0,b3.e1,b3.e2,b3.e3] s8.toNat).toNat+s6.toNat)/2^64:Nat):Int),(w6 (s8+1)),b2,b3,b4,(⟨(if s8.toNat=0 then((((zbk [b2.e0,b2.e1,b2.e2,b2.e3] s8.toNat).toNat+(zbk [b3.e0,b3.e1,b3.e2,b3.e3] s8.toNat).toNat+s6.toNat)%2^64:Nat):Int)else b5.e0),(if s8.toNat=1 then((((zbk [b2.e0,b2.e1,b2.e2,b2.e3] s8.toNat).toNat+(zbk [b3.e0,b3.e1,b3.e2,b3.e3] s8.toNat).toNat+s6.toNat)%2^64:Nat):Int)else b5.e1),(if s8.toNat=2 then((((zbk [b2.e0,b2.e1,b2.e2,b2.e3] s8.toNat).toNat+(zbk [b3.e0,b3.e1,b3.e2,b3.e3] s8.toNat).toNat+s6.toNat)%2^64:Nat):Int)else b5.e2),(if s8.toNat=3 then((((zbk [b2.e0,b2.e1,b2.e2,b2.e3] s8.toNat).toNat+(zbk [b3.e0,b3.e1,b3.e2,b3.e3] s8.toNat).toNat+s6.toNat)%2^64:Nat):Int)else b5.e3)⟩:zJ))))else none)else none)else none)else none)else none)else none)
  (some (.leave (s6,s8,b2,b3,b4,b5)))
def zaj.r0 (N:Nat) (x:Int × Int × zJ × zJ × zJ × zJ):=zaj.b0 N x.1 x.2.1 x.2.2.1 x.2.2.2.1 x.2.2.2.2.1 x.2.2.2.2.2
def zaj (N:Nat) (a0:zJ) (a1:zJ):Option zJ:=
 (zi (zaj.r0 N) N (0,0,a0,a1,(⟨0,0,0,0⟩:zJ),(⟨0,0,0,0⟩:zJ))).bind fun y1=>some y1.2.2.2.2.2
def zaj.k (N:Nat):Kq:=⟨327,(cvv [Ty.zJ] [Ty.zJ,Ty.zJ] (zaj N)),go [] {X:=[(348,0)]} [(0,.plain {slots:=[(2,.ptr 2 0),(3,.ptr 3 0),(4,.ptr 4 0),(5,.ptr 5 0),(6,.val (Ty.int .u64)),(8,.val T6)],boxes:=[(2,Ty.zJ,[]),(3,Ty.zJ,[]),(4,Ty.zJ,[]),(5,Ty.zJ,[])]} [(Ty.int .u64),T6,Ty.zJ,Ty.zJ,Ty.zJ,Ty.zJ] (zi (zaj.r0 N) N))] Proofs.Tryz.func327 (hL:=⟨⟨_,_,rfl,by kernel_rfl⟩,trivial⟩) (hX:=all_cons (zafj) (all_nil))⟩
def zo.b0 (N:Nat) (s5:Int) (b2:zJ) (b3:zJ):Option (Round Int (Int × zJ × zJ)):=
 cond (decide (s5≥0))
  (if 0≤s5 then(if s5<4 then(if 0≤s5 then(if s5<4 then(cond (decide ((zbk [b2.e0,b2.e1,b2.e2,b2.e3] s5.toNat)<(zbk [b3.e0,b3.e1,b3.e2,b3.e3] s5.toNat)))
  (some (.result (-1)))
  (if 0≤s5 then(if s5<4 then(if 0≤s5 then(if s5<4 then(cond (decide ((zbk [b2.e0,b2.e1,b2.e2,b2.e3] s5.toNat)>(zbk [b3.e0,b3.e1,b3.e2,b3.e3] s5.toNat)))
  (some (.result 1)) (some (.again ((w6 (s5-1)),b2,b3))))else none)else none)else none)else none))else none)else none)else none)else none)
  (some (.leave (s5,b2,b3)))
def zo.r0 (N:Nat) (x:Int × zJ × zJ):=zo.b0 N x.1 x.2.1 x.2.2
def zo (N:Nat) (a0:zJ) (a1:zJ):Option Int:=
 (zp (zo.r0 N) N (3,a0,a1)).bind fun z2=>zbq z2 (fun z=>some z) (fun y1=>some 0)
def zo.k (N:Nat):Kq:=⟨305,(cvv [T6] [Ty.zJ,Ty.zJ] (zo N)),go [] {} [(0,.rets {slots:=[(2,.ptr 2 0),(3,.ptr 3 0),(5,.val T6)],boxes:=[(2,Ty.zJ,[]),(3,Ty.zJ,[])]} [T6,Ty.zJ,Ty.zJ] (zp (zo.r0 N) N))] Proofs.Tryz.func305 (hL:=⟨⟨_,_,rfl,by kernel_rfl⟩,trivial⟩)⟩
def zag.b0 (N:Nat) (s6:Int) (s8:Int) (b2:zJ) (b3:zJ) (b4:zJ) (b5:zJ):Option (Stp (Int × Int × zJ × zJ × zJ × zJ)):=
 cond (decide (s8<4))
  (if 0≤s8 then(if s8<4 then(if 0≤s8 then(if s8<4 then(if s6.toNat>1 then none else if 0≤s8 then(if s8<4 then(some (.again (((if(zbk [b2.e0,b2.e1,b2.e2,b2.e3] s8.toNat).toNat<(zbk [b3.e0,b3.e1,b3.e2,b3.e3] s8.toNat).toNat+s6.toNat then 1 else 0:Nat):Int),(w6 (s8+1)),b2,b3,b4,(⟨(if s8.toNat=0 then((((zbk [b2.e0,b2.e1,b2.e2,b2.e3] s8.toNat).toNat+2^64-(zbk [b3.e0,b3.e1,b3.e2,b3.e3] s8.toNat).toNat-s6.toNat)%2^64:Nat):Int)else b5.e0),(if s8.toNat=1 then((((zbk [b2.e0,b2.e1,b2.e2,b2.e3] s8.toNat).toNat+2^64-(zbk [b3.e0,b3.e1,b3.e2,b3.e3] s8.toNat).toNat-s6.toNat)%2^64:Nat):Int)else b5.e1),(if s8.toNat=2 then((((zbk [b2.e0,b2.e1,b2.e2,b2.e3] s8.toNat).toNat+2^64-(zbk [b3.e0,b3.e1,b3.e2,b3.e3] s8.toNat).toNat-s6.toNat)%2^64:Nat):Int)else b5.e2),(if s8.toNat=3 then((((zbk [b2.e0,b2.e1,b2.e2,b2.e3] s8.toNat).toNat+2^64-(zbk [b3.e0,b3.e1,b3.e2,b3.e3] s8.toNat).toNat-s6.toNat)%2^64:Nat):Int)else b5.e3)⟩:zJ))))else none)else none)else none)else none)else none)else none)
  (some (.leave (s6,s8,b2,b3,b4,b5)))
def zag.r0 (N:Nat) (x:Int × Int × zJ × zJ × zJ × zJ):=zag.b0 N x.1 x.2.1 x.2.2.1 x.2.2.2.1 x.2.2.2.2.1 x.2.2.2.2.2
def zag (N:Nat) (a0:zJ) (a1:zJ):Option zJ:=
 (zi (zag.r0 N) N (0,0,a0,a1,(⟨0,0,0,0⟩:zJ),(⟨0,0,0,0⟩:zJ))).bind fun y1=>some y1.2.2.2.2.2
def zag.k (N:Nat):Kq:=⟨347,(cvv [Ty.zJ] [Ty.zJ,Ty.zJ] (zag N)),go [] {X:=[(357,1)]} [(0,.plain {slots:=[(2,.ptr 2 0),(3,.ptr 3 0),(4,.ptr 4 0),(5,.ptr 5 0),(6,.val (Ty.int .u64)),(8,.val T6)],boxes:=[(2,Ty.zJ,[]),(3,Ty.zJ,[]),(4,Ty.zJ,[]),(5,Ty.zJ,[])]} [(Ty.int .u64),T6,Ty.zJ,Ty.zJ,Ty.zJ,Ty.zJ] (zi (zag.r0 N) N))] Proofs.Tryz.func347 (hL:=⟨⟨_,_,rfl,by kernel_rfl⟩,trivial⟩) (hX:=all_cons (zakh) (all_nil))⟩
def zbb.b0 (N:Nat) (s6:Int) (b2:zJ) (b3:zJ) (b4:zJ) (b5:zJ):Option (Stp (Int × zJ × zJ × zJ × zJ)):=
 cond (decide (s6≥0)) ((zaj N b5 b5).bind fun r1001=>
  if 0≤(w6 (s6.tdiv 64))then(if(w6 (s6.tdiv 64))<4 then(if(s6.tmod 64)<0 then none else(zo N (⟨(if 0=0 then(orI .u64 (zbk [r1001.e0,r1001.e1,r1001.e2,r1001.e3] 0)
  (zg .u64 (((zbk [b2.e0,b2.e1,b2.e2,b2.e3] ((w6 (s6.tdiv 64)).toNat)):Int).fdiv (2^(min (s6.tmod 64).toNat 64))) 1))else r1001.e0),(if 0=1 then(orI .u64 (zbk [r1001.e0,r1001.e1,r1001.e2,r1001.e3] 0)
  (zg .u64 (((zbk [b2.e0,b2.e1,b2.e2,b2.e3] ((w6 (s6.tdiv 64)).toNat)):Int).fdiv (2^(min (s6.tmod 64).toNat 64))) 1))else r1001.e1),(if 0=2 then(orI .u64 (zbk [r1001.e0,r1001.e1,r1001.e2,r1001.e3] 0)
  (zg .u64 (((zbk [b2.e0,b2.e1,b2.e2,b2.e3] ((w6 (s6.tdiv 64)).toNat)):Int).fdiv (2^(min (s6.tmod 64).toNat 64))) 1))else r1001.e2),(if 0=3 then(orI .u64 (zbk [r1001.e0,r1001.e1,r1001.e2,r1001.e3] 0)
  (zg .u64 (((zbk [b2.e0,b2.e1,b2.e2,b2.e3] ((w6 (s6.tdiv 64)).toNat)):Int).fdiv (2^(min (s6.tmod 64).toNat 64))) 1))else r1001.e3)⟩:zJ) b3).bind fun r1002=>
  cond (decide (r1002≥0)) ((zag N (⟨(if 0=0 then(orI .u64 (zbk [r1001.e0,r1001.e1,r1001.e2,r1001.e3] 0)
  (zg .u64 (((zbk [b2.e0,b2.e1,b2.e2,b2.e3] ((w6 (s6.tdiv 64)).toNat)):Int).fdiv (2^(min (s6.tmod 64).toNat 64))) 1))else r1001.e0),(if 0=1 then(orI .u64 (zbk [r1001.e0,r1001.e1,r1001.e2,r1001.e3] 0)
  (zg .u64 (((zbk [b2.e0,b2.e1,b2.e2,b2.e3] ((w6 (s6.tdiv 64)).toNat)):Int).fdiv (2^(min (s6.tmod 64).toNat 64))) 1))else r1001.e1),(if 0=2 then(orI .u64 (zbk [r1001.e0,r1001.e1,r1001.e2,r1001.e3] 0)
  (zg .u64 (((zbk [b2.e0,b2.e1,b2.e2,b2.e3] ((w6 (s6.tdiv 64)).toNat)):Int).fdiv (2^(min (s6.tmod 64).toNat 64))) 1))else r1001.e2),(if 0=3 then(orI .u64 (zbk [r1001.e0,r1001.e1,r1001.e2,r1001.e3] 0)
  (zg .u64 (((zbk [b2.e0,b2.e1,b2.e2,b2.e3] ((w6 (s6.tdiv 64)).toNat)):Int).fdiv (2^(min (s6.tmod 64).toNat 64))) 1))else r1001.e3)⟩:zJ) b3).bind fun r1003=>
  if 0≤(w6 (s6.tdiv 64))then(if(w6 (s6.tdiv 64))<4 then(if(s6.tmod 64)<0 then none else if 0≤(w6 (s6.tdiv 64))then(if(w6 (s6.tdiv 64))<4 then(some (.again ((w6 (s6-1)),b2,b3,(⟨(if(w6 (s6.tdiv 64)).toNat=0 then(orI .u64 (zbk [b4.e0,b4.e1,b4.e2,b4.e3] ((w6 (s6.tdiv 64)).toNat))
  (IntKind.wrap .u64 (1*2^(min (s6.tmod 64).toNat 64))))else b4.e0),(if(w6 (s6.tdiv 64)).toNat=1 then(orI .u64 (zbk [b4.e0,b4.e1,b4.e2,b4.e3] ((w6 (s6.tdiv 64)).toNat))
  (IntKind.wrap .u64 (1*2^(min (s6.tmod 64).toNat 64))))else b4.e1),(if(w6 (s6.tdiv 64)).toNat=2 then(orI .u64 (zbk [b4.e0,b4.e1,b4.e2,b4.e3] ((w6 (s6.tdiv 64)).toNat))
  (IntKind.wrap .u64 (1*2^(min (s6.tmod 64).toNat 64))))else b4.e2),(if(w6 (s6.tdiv 64)).toNat=3 then(orI .u64 (zbk [b4.e0,b4.e1,b4.e2,b4.e3] ((w6 (s6.tdiv 64)).toNat))
  (IntKind.wrap .u64 (1*2^(min (s6.tmod 64).toNat 64))))else b4.e3)⟩:zJ),r1003)))else none)else none)else none)else none)
  (some (.again ((w6 (s6-1)),b2,b3,b4,(⟨(if 0=0 then(orI .u64 (zbk [r1001.e0,r1001.e1,r1001.e2,r1001.e3] 0)
  (zg .u64 (((zbk [b2.e0,b2.e1,b2.e2,b2.e3] ((w6 (s6.tdiv 64)).toNat)):Int).fdiv (2^(min (s6.tmod 64).toNat 64))) 1))else r1001.e0),(if 0=1 then(orI .u64 (zbk [r1001.e0,r1001.e1,r1001.e2,r1001.e3] 0)
  (zg .u64 (((zbk [b2.e0,b2.e1,b2.e2,b2.e3] ((w6 (s6.tdiv 64)).toNat)):Int).fdiv (2^(min (s6.tmod 64).toNat 64))) 1))else r1001.e1),(if 0=2 then(orI .u64 (zbk [r1001.e0,r1001.e1,r1001.e2,r1001.e3] 0)
  (zg .u64 (((zbk [b2.e0,b2.e1,b2.e2,b2.e3] ((w6 (s6.tdiv 64)).toNat)):Int).fdiv (2^(min (s6.tmod 64).toNat 64))) 1))else r1001.e2),(if 0=3 then(orI .u64 (zbk [r1001.e0,r1001.e1,r1001.e2,r1001.e3] 0)
  (zg .u64 (((zbk [b2.e0,b2.e1,b2.e2,b2.e3] ((w6 (s6.tdiv 64)).toNat)):Int).fdiv (2^(min (s6.tmod 64).toNat 64))) 1))else r1001.e3)⟩:zJ)))))else none)else none)
  (some (.leave (s6,b2,b3,b4,b5)))
def zbb.r0 (N:Nat) (x:Int × zJ × zJ × zJ × zJ):=zbb.b0 N x.1 x.2.1 x.2.2.1 x.2.2.2.1 x.2.2.2.2
def zbb (N:Nat) (a0:zJ) (a1:zJ):Option (zJ × zJ):=
 (zi (zbb.r0 N) N (255,a0,a1,(⟨0,0,0,0⟩:zJ),(⟨0,0,0,0⟩:zJ))).bind fun y1=>some (y1.2.2.2.1,y1.2.2.2.2)
def zbb.k (N:Nat):Kq:=⟨326,(cvv [Ty.zJ,Ty.zJ] [Ty.zJ,Ty.zJ] (zbb N)),go [zo.k N,zaj.k N,zag.k N] {} [(0,.plain {slots:=[(2,.ptr 2 0),(3,.ptr 3 0),(4,.ptr 4 0),(5,.ptr 5 0),(6,.val T6)],boxes:=[(2,Ty.zJ,[]),(3,Ty.zJ,[]),(4,Ty.zJ,[]),(5,Ty.zJ,[])]} [T6,Ty.zJ,Ty.zJ,Ty.zJ,Ty.zJ] (zi (zbb.r0 N) N))] Proofs.Tryz.func326 (hL:=⟨⟨_,_,rfl,by kernel_rfl⟩,trivial⟩)⟩
def zeo (N:Nat) (a0:zV) (a1:DataType) (a2:Bool):Option (Value × Int):=
 (zk N a0.amount a1.Scale).bind fun r1=>(zbb N r1 a0.division).bind fun r2=>(cond a2 ((zaj N r2.2 r2.2).bind fun r3=>
  (zo N r3 a0.division).bind fun r4=>some (decide (r4≥0))) (some false)).bind fun g5=>cond g5 ((zb7 1).bind fun r6=>
  (zaj N r2.1 r6).bind fun r7=>(zb7 1).bind fun r8=>(zk N r8 a1.Length).bind fun r9=>(zo N r7 r9).bind fun r10=>
  cond (decide (r10≥0)) (some ((⟨0,(⟨#[]⟩:ByteArray)⟩:Value),19))
  (cond a0.below (some ((⟨(w6 (0-(w6 (zbk [r7.e0,r7.e1,r7.e2,r7.e3] 0)))),(⟨#[]⟩:ByteArray)⟩:Value),0))
  (some ((⟨(w6 (zbk [r7.e0,r7.e1,r7.e2,r7.e3] 0)),(⟨#[]⟩:ByteArray)⟩:Value),0)))) ((zb7 1).bind fun r11=>
  (zk N r11 a1.Length).bind fun r12=>(zo N r2.1 r12).bind fun r13=>cond (decide (r13≥0)) (some ((⟨0,(⟨#[]⟩:ByteArray)⟩:Value),19))
  (cond a0.below (some ((⟨(w6 (0-(w6 (zbk [r2.1.e0,r2.1.e1,r2.1.e2,r2.1.e3] 0)))),(⟨#[]⟩:ByteArray)⟩:Value),0))
  (some ((⟨(w6 (zbk [r2.1.e0,r2.1.e1,r2.1.e2,r2.1.e3] 0)),(⟨#[]⟩:ByteArray)⟩:Value),0))))
def zeo.k (N:Nat):Kq:=⟨301,(cvv [Ty.Value,T6] [Ty.zV,Ty.DataType,Ty.bool] (zeo N)),go [zo.k N,zb7.k,zk.k N,zbb.k N,zaj.k N] {lits:=[16,26,33,36,39]} [] Proofs.Tryz.func301⟩
def zgv (N:Nat) (a0:Number) (a1:DataType) (a2:Bool):Option (Value × Int):=
 (zbl a0).bind fun r1=>(zax N a1).bind fun r2=>(zft a1).bind fun r3=>(za5 (!r3) 17).bind fun r4=>
  (zab N ([r1,r2,r4]:List Int)).bind fun r5=>cond (r5 !=0) (some ((⟨0,(⟨#[]⟩:ByteArray)⟩:Value),r5)) ((zpn N a0).bind fun r6=>
  (zeo N r6 a1 a2).bind fun r7=>some (r7.1,r7.2))
def zgv.k (N:Nat):Kq:=⟨236,(cvv [Ty.Value,T6] [Ty.Number,Ty.DataType,Ty.bool] (zgv N)),go [zax.k N,zbl.k,zab.k N,za5.k,zft.k,zpn.k N,zeo.k N] {lits:=[10,12,16,17,24]} [] Proofs.Tryz.func236⟩
def zbs (N:Nat) (a0:zG) (a1:zN) (a2:ByteArray):Option zG:=
 (zbp N a0 a1 (a2.size:Int)).bind fun r1=>cond r1.2.1 ((ze0 N r1.2.2.zC.Storage r1.1 a2).bind fun r2=>
  some (⟨(⟨r1.2.2.zC.Registers,r1.2.2.zC.Condition,r2.1,r1.2.2.zC.At,r1.2.2.zC.Stack,r1.2.2.zC.Lines,r1.2.2.zC.Status,r1.2.2.zC.Exception,r1.2.2.zC.Marks,r1.2.2.zC.Steps⟩:zC),r1.2.2.code,r1.2.2.raised⟩:zG))
  (some r1.2.2)
def zbs.k (N:Nat):Kq:=⟨237,(ctv [.ptr Ty.zG true [],.val Ty.zN,.val Ty.str] [] [Ty.zG] [] [Ty.zG,Ty.zN,Ty.str] (zbs N)),go [ze0.k N,zbp.k N] {lits:=[12],pk:=[1000000]} [] Proofs.Tryz.func237⟩
def zfs (N:Nat) (a0:zG) (a1:zA):Option zG:=
 (idx a0.zC.Registers a1.R).bind fun x1=>(zgv N x1 a1.zF a1.Half).bind fun r2=>(zh a0 (r2.2 !=0) 2).bind fun r3=>
  cond r3.1 ((zgk N a1.zF r2.1).bind fun r4=>(zbs N r3.2 a1.Place r4.1).bind fun r5=>some r5) (some r3.2)
def zfs.k (N:Nat):Kq:=⟨165,(ctv [.ptr Ty.zG true [],.val Ty.zA] [] [Ty.zG] [] [Ty.zG,Ty.zA] (zfs N)),go [zgk.k N,zh.k,zgv.k N,zbs.k N] {pk:=[1000000]} [] Proofs.Tryz.func165⟩
def zne (a0:Int):Option Bool:=
 (ze2 a0 0 4).bind fun r1=>some r1
def zne.k:Kq:=⟨302,(cvv [Ty.bool] [T6] zne),go [ze2.k] {} [] Proofs.Tryz.func302⟩
def zk7 (a0:Int):Option Bool:=
 (cond (a0==3) (some true) (some (a0==4))).bind fun g1=>some g1
def zk7.k:Kq:=⟨328,(cvv [Ty.bool] [T6] zk7),go [] {} [] Proofs.Tryz.func328⟩
def ze8 (N:Nat) (a0:Number) (a1:Number):Option (zJ × zJ × Int):=
 (zdt N a0 (w6 ((if a1.Scale>a0.Scale then a1.Scale else a0.Scale)-a0.Scale))).bind fun r1=>
  (zdt N a1 (w6 ((if a1.Scale>a0.Scale then a1.Scale else a0.Scale)-a1.Scale))).bind fun r2=>
  some (r1,r2,(if a1.Scale>a0.Scale then a1.Scale else a0.Scale))
def ze8.k (N:Nat):Kq:=⟨304,(cvv [Ty.zJ,Ty.zJ,T6] [Ty.Number,Ty.Number] (ze8 N)),go [zdt.k N] {} [] Proofs.Tryz.func304⟩
def zlh (N:Nat) (a0:Number) (a1:Number):Option zV:=
 (ze8 N a0 a1).bind fun r1=>(zaj N r1.1 r1.2.1).bind fun r2=>(zb7 1).bind fun r3=>(zk N r3 r1.2.2).bind fun r4=>
  cond (!((decide (a0.N<0))==(decide (a1.N<0)))) ((zag N r1.1 r1.2.1).bind fun r5=>(zo N r1.1 r1.2.1).bind fun r6=>cond (decide (r6<0))
  ((zag N r1.2.1 r1.1).bind fun r7=>some (⟨(decide (a1.N<0)),r7,r4⟩:zV)) (some (⟨(decide (a0.N<0)),r5,r4⟩:zV)))
  (some (⟨(decide (a0.N<0)),r2,r4⟩:zV))
def zlh.k (N:Nat):Kq:=⟨349,(cvv [Ty.zV] [Ty.Number,Ty.Number] (zlh N)),go [ze8.k N,zo.k N,zb7.k,zk.k N,zaj.k N,zag.k N] {lits:=[22]} [] Proofs.Tryz.func349⟩
def zlx (N:Nat) (a0:Int) (a1:Number) (a2:Number):Option zV:=
 cond (a0==0) ((zlh N a1 a2).bind fun r1=>some r1) (cond (a0==1) ((zlh N a1 (⟨(w6 (0-a2.N)),a2.Scale⟩:Number)).bind fun r2=>some r2)
  (cond (a0==2) ((zdt N a1 0).bind fun r3=>
  (za7 N r3 (IntKind.wrap .u64 (if(w6 (0-a2.N))>a2.N then(w6 (0-a2.N))else a2.N))).bind fun r4=>
  (zb7 1).bind fun r5=>(zk N r5 (w6 (a1.Scale+a2.Scale))).bind fun r6=>
  some (⟨(!((decide (a1.N<0))==(decide (a2.N<0)))),r4,r6⟩:zV)) (cond (a0==3) ((zdt N a1 a2.Scale).bind fun r7=>
  (zdt N a2 a1.Scale).bind fun r8=>some (⟨(!((decide (a1.N<0))==(decide (a2.N<0)))),r7,r8⟩:zV)) ((ze8 N a1 a2).bind fun r9=>
  (zbb N r9.1 r9.2.1).bind fun r10=>(zb7 1).bind fun r11=>(zk N r11 r9.2.2).bind fun r12=>
  some (⟨(decide (a1.N<0)),r10.2,r12⟩:zV)))))
def zlx.k (N:Nat):Kq:=⟨329,(cvv [Ty.zV] [T6,Ty.Number,Ty.Number] (zlx N)),go [ze8.k N,zdt.k N,zb7.k,zk.k N,zbb.k N,za7.k N,zlh.k N] {lits:=[40,49,86]} [] Proofs.Tryz.func329⟩
def zi4 (N:Nat) (a0:Int) (a1:Number) (a2:Number) (a3:DataType) (a4:Bool):Option (Value × Int):=
 (zk7 a0).bind fun r1=>(cond r1 (some (a2.N==0)) (some false)).bind fun g2=>cond g2 (some ((⟨0,(⟨#[]⟩:ByteArray)⟩:Value),20))
  ((zlx N a0 a1 a2).bind fun r3=>(zeo N r3 a3 a4).bind fun r4=>some (r4.1,r4.2))
def zi4.k (N:Nat):Kq:=⟨303,(cvv [Ty.Value,T6] [T6,Ty.Number,Ty.Number,Ty.DataType,Ty.bool] (zi4 N)),go [zeo.k N,zk7.k,zlx.k N] {lits:=[23]} [] Proofs.Tryz.func303⟩
def zda (N:Nat) (a0:Int) (a1:Number) (a2:Number) (a3:DataType) (a4:Bool):Option (Value × Int):=
 (zne a0).bind fun r1=>(za5 (!r1) 4).bind fun r2=>(zbl a1).bind fun r3=>(zbl a2).bind fun r4=>
  (zax N a3).bind fun r5=>(zft a3).bind fun r6=>(za5 (!r6) 17).bind fun r7=>
  (zab N ([r2,r3,r4,r5,r7]:List Int)).bind fun r8=>cond (r8 !=0) (some ((⟨0,(⟨#[]⟩:ByteArray)⟩:Value),r8))
  ((zi4 N a0 a1 a2 a3 a4).bind fun r9=>some (r9.1,r9.2))
def zda.k (N:Nat):Kq:=⟨238,(cvv [Ty.Value,T6] [T6,Ty.Number,Ty.Number,Ty.DataType,Ty.bool] (zda N)),go [zax.k N,zbl.k,zab.k N,za5.k,zft.k,zne.k,zi4.k N] {lits:=[16,18,20,22,26,27]} [] Proofs.Tryz.func238⟩
def zhh (N:Nat) (a0:zG) (a1:zA):Option zG:=
 cond a1.zO ((zcb N a0 a1.Place a1.Second).bind fun r1=>cond (!r1.2.1) (some r1.2.2) ((idx r1.2.2.zC.Registers a1.A).bind fun x2=>
  (zda N a1.zM x2 r1.1 a1.zF false).bind fun r3=>(zh r1.2.2 (r3.2==20) 3).bind fun r4=>
  cond r4.1 ((zh r4.2 (r3.2 !=0) 2).bind fun r5=>cond r5.1 ((zap r5.2 a1.R (⟨r3.1.N,a1.zF.Scale⟩:Number)).bind fun r6=>some r6)
  (some r5.2)) (some r4.2))) ((idx a0.zC.Registers a1.B).bind fun x7=>(idx a0.zC.Registers a1.A).bind fun x8=>
  (zda N a1.zM x8 x7 a1.zF false).bind fun r9=>(zh a0 (r9.2==20) 3).bind fun r10=>
  cond r10.1 ((zh r10.2 (r9.2 !=0) 2).bind fun r11=>cond r11.1 ((zap r11.2 a1.R (⟨r9.1.N,a1.zF.Scale⟩:Number)).bind fun r12=>
  some r12) (some r11.2)) (some r10.2))
def zhh.k (N:Nat):Kq:=⟨166,(ctv [.ptr Ty.zG true [],.val Ty.zA] [] [Ty.zG] [] [Ty.zG,Ty.zA] (zhh N)),go [zcb.k N,zap.k,zh.k,zda.k N] {pk:=[1000000]} [] Proofs.Tryz.func166⟩
def zhl (N:Nat) (a0:Number) (a1:Number):Option (Int × Int):=
 (zbl a0).bind fun r1=>(zbl a1).bind fun r2=>(zab N ([r1,r2]:List Int)).bind fun r3=>cond (r3 !=0) (some (0,r3))
  ((ze8 N a0 a1).bind fun r4=>(cond (decide (a0.N<0)) (some (decide (a1.N<0))) (some false)).bind fun g5=>
  cond g5 ((zo N r4.2.1 r4.1).bind fun r6=>some (r6,0)) (cond (decide (a0.N<0)) (some ((-1),0)) (cond (decide (a1.N<0)) (some (1,0))
  ((zo N r4.1 r4.2.1).bind fun r7=>some (r7,0)))))
def zhl.k (N:Nat):Kq:=⟨239,(cvv [T6,T6] [Ty.Number,Ty.Number] (zhl N)),go [zbl.k,zab.k N,ze8.k N,zo.k N] {lits:=[11,13,14]} [] Proofs.Tryz.func239⟩
def zes (a0:Int):Option Int:=
 cond (decide (a0<0)) (some 1) (cond (decide (a0>0)) (some 4) (some 2))
def zes.k:Kq:=⟨240,(cvv [T6] [T6] zes),go [] {} [] Proofs.Tryz.func240⟩
def za8 (N:Nat) (a0:zG) (a1:zA):Option Int:=
 (idx a0.zC.Registers a1.A).bind fun x1=>(idx a0.zC.Registers a1.B).bind fun x2=>(zhl N x1 x2).bind fun r3=>(zes r3.1).bind fun r4=>
  some r4
def za8.k (N:Nat):Kq:=⟨167,(ctv [.ptr Ty.zG false [],.val Ty.zA] [T6] [] [] [Ty.zG,Ty.zA] (za8 N)),go [zhl.k N,zes.k] {ro:=[1000000],pk:=[1000000]} [] Proofs.Tryz.func167⟩
def zee (a0:ByteArray) (a1:Int):Option ByteArray:=
 (zow (⟨#[32]⟩:ByteArray) (if 0>(w6 (a1-(a0.size:Int)))then 0 else(w6 (a1-(a0.size:Int))))).bind fun r1=>
  if((a0.size+r1.size:Nat):Int)>IntKind.i64.max then none else some (a0++r1)
def zee.k:Kq:=⟨241,(cvv [Ty.str] [Ty.str,T6] zee),go [zw9.k] {lits:=[10]} [] Proofs.Tryz.func241⟩
def zhg (N:Nat) (a0:zG) (a1:zA):Option zG:=
 cond (a1.Op==9) ((zaf N a0 a1.From a1.Second).bind fun r1=>cond r1.2.1 ((zee r1.1 a1.zF.Length).bind fun r2=>
  if 0≤a1.zF.Length∧a1.zF.Length≤(r2.size:Int)then(if 0≤(0:Int)∧(0:Int)≤a1.zF.Length then((zbs N r1.2.2 a1.Place (r2.extract (0:Int).toNat a1.zF.Length.toNat)).bind fun r3=>
  some r3)else none)else none) (some r1.2.2)) ((zee a1.Text a1.zF.Length).bind fun r4=>
  if 0≤a1.zF.Length∧a1.zF.Length≤(r4.size:Int)then(if 0≤(0:Int)∧(0:Int)≤a1.zF.Length then((zbs N a0 a1.Place (r4.extract (0:Int).toNat a1.zF.Length.toNat)).bind fun r5=>
  some r5)else none)else none)
def zhg.k (N:Nat):Kq:=⟨168,(ctv [.ptr Ty.zG true [],.val Ty.zA] [] [Ty.zG] [] [Ty.zG,Ty.zA] (zhg N)),go [zaf.k N,zbs.k N,zee.k] {pk:=[1000000]} [] Proofs.Tryz.func168⟩
def zeq (a0:ByteArray) (a1:ByteArray):Option Int:=
 some (Extern.BytealgCompare.cmp a0 a1)
def zeq.k:Kq:=⟨306,(cvv [T6] [Ty.str,Ty.str] zeq),go [] {X:=[(330,2)]} [] Proofs.Tryz.func306 (hX:=all_cons (zaki) (all_nil))⟩
def zk0 (a0:ByteArray) (a1:ByteArray):Option Int:=
 (zeq a0 a1).bind fun r1=>some r1
def zk0.k:Kq:=⟨242,(cvv [T6] [Ty.str,Ty.str] zk0),go [zeq.k] {} [] Proofs.Tryz.func242⟩
def zdf (a0:ByteArray) (a1:ByteArray):Option Int:=
 (zee a0 (a1.size:Int)).bind fun r1=>(zee a1 (a0.size:Int)).bind fun r2=>(zk0 r1 r2).bind fun r3=>(zes r3).bind fun r4=>
  some r4
def zdf.k:Kq:=⟨170,(cvv [T6] [Ty.str,Ty.str] zdf),go [zes.k,zee.k,zk0.k] {lits:=[7,8,11,12,13]} [] Proofs.Tryz.func170⟩
def zf4 (N:Nat) (a0:zG) (a1:zA):Option zG:=
 (zaf N a0 a1.Place a1.zF).bind fun r1=>(cond r1.2.1 (some (a1.Op==11)) (some false)).bind fun g2=>
  cond g2 ((zaf N r1.2.2 a1.From a1.Second).bind fun r3=>cond r3.2.1 ((zdf r1.1 r3.1).bind fun r4=>
  some (⟨(⟨r3.2.2.zC.Registers,r4,r3.2.2.zC.Storage,r3.2.2.zC.At,r3.2.2.zC.Stack,r3.2.2.zC.Lines,r3.2.2.zC.Status,r3.2.2.zC.Exception,r3.2.2.zC.Marks,r3.2.2.zC.Steps⟩:zC),r3.2.2.code,r3.2.2.raised⟩:zG))
  (some r3.2.2)) (cond r1.2.1 ((zdf r1.1 a1.Text).bind fun r5=>
  some (⟨(⟨r1.2.2.zC.Registers,r5,r1.2.2.zC.Storage,r1.2.2.zC.At,r1.2.2.zC.Stack,r1.2.2.zC.Lines,r1.2.2.zC.Status,r1.2.2.zC.Exception,r1.2.2.zC.Marks,r1.2.2.zC.Steps⟩:zC),r1.2.2.code,r1.2.2.raised⟩:zG))
  (some r1.2.2))
def zf4.k (N:Nat):Kq:=⟨169,(ctv [.ptr Ty.zG true [],.val Ty.zA] [] [Ty.zG] [] [Ty.zG,Ty.zA] (zf4 N)),go [zdf.k,zaf.k N] {pk:=[1000000]} [] Proofs.Tryz.func169⟩
def zcq.b0 (N:Nat) (s0:Int) (s1:Int) (s5:List Int) (s10:Int) (s11:Int):Option (Stp (Int × Int × (List Int) × Int × Int)):=
 cond (decide (s11<s10))
  (if(w6 (8*s11))<0 then none else if 0≤(w6 ((w6 (s1-1))-s11))then(if(w6 ((w6 (s1-1))-s11))<(s5.length:Int)then((s5[(w6 ((w6 (s1-1))-s11)).toNat]?).bind fun x1001=>
  some (.again (s0,s1,(s5.set ((w6 ((w6 (s1-1))-s11)).toNat)
  (IntKind.wrap .u8 ((s0:Int).fdiv (2^(min (w6 (8*s11)).toNat 64))))),s10,(w6 (s11+1)))))else none)else none)
  (some (.leave (s0,s1,s5,s10,s11)))
def zcq.r0 (N:Nat) (x:Int × Int × (List Int) × Int × Int):=zcq.b0 N x.1 x.2.1 x.2.2.1 x.2.2.2.1 x.2.2.2.2
def zcq (N:Nat) (a0:Int) (a1:Int):Option ((List Int)):=
 if 0≤a1 then(if a1≤a1 then(cond (Nat.ble (a1.toNat*1) zae)
  ((zi (zcq.r0 N) N (a0,a1,(List.replicate a1.toNat (0:Int)),((List.replicate a1.toNat (0:Int)).length:Int),0)).bind fun y1=>
  some y1.2.2.1) none)else none)else none
def zcq.k (N:Nat):Kq:=⟨332,(cvv [(Ty.sl (Ty.int .u8))] [T6,T6] (zcq N)),go [] {} [(0,.plain {slots:=[(0,.val T6),(1,.val T6),(5,.own 5000005 (Ty.int .u8)),(10,.val T6),(11,.val T6)],boxes:=[]} [T6,T6,(Ty.sl (Ty.int .u8)),T6,T6] (zi (zcq.r0 N) N))] Proofs.Tryz.func332 (hL:=⟨⟨_,_,rfl,by kernel_rfl⟩,trivial⟩)⟩
def zkc (a0:Unit) (a1:Int):Option ((List Int)):=
 cond (decide (a1<0)) (none) (cond (decide ((w6 (a1-0))>0))
  (if 0≤(w6 (a1-0))then(cond (Nat.ble ((w6 (a1-0)).toNat*1) zae)
  (if 0≤(0:Int)∧(0:Int)≤((List.replicate (w6 (a1-0)).toNat (0:Int)).length:Int)then(if 0≤(0:Int)∧(0:Int)≤(0:Int)then(some (((List.replicate (w6 (a1-0)).toNat (0:Int)).drop ((0:Int).toNat)).take ((0:Int).toNat-(0:Int).toNat)))else none)else none) none)else none)
  (some []))
def zkc.k:Kq:=⟨350,(ctv [.val Ty.nil,.val T6] [(Ty.sl (Ty.int .u8))] [] [0] [Ty.nil,T6] zkc),go [] {} [] Proofs.Tryz.func350⟩
def zbj.b0 (N:Nat) (s0:List (List Int)) (s3:Int) (s9:List (List Int)) (s10:Int) (s11:Int):Option (Stp ((List (List Int)) × Int × (List (List Int)) × Int × Int)):=
 cond (decide (s11<s10)) ((idx s9 s11).bind fun x1001=>cond (decide ((w6 (s3+(x1001.length:Int)))<0)) (none)
  (some (.again (s0,(w6 (s3+(x1001.length:Int))),s9,s10,(w6 (s11+1)))))) (some (.leave (s0,s3,s9,s10,s11)))
def zbj.r0 (N:Nat) (x:(List (List Int)) × Int × (List (List Int)) × Int × Int):=zbj.b0 N x.1 x.2.1 x.2.2.1 x.2.2.2.1 x.2.2.2.2
def zbj.b2 (N:Nat) (s6:List Int) (s25:List (List Int)) (s26:Int) (s27:Int):Option (Stp ((List Int) × (List (List Int)) × Int × Int)):=
 cond (decide (s27<s26)) ((idx s25 s27).bind fun x3001=>cond (Nat.ble ((s6.length+x3001.length)*1) zae)
  (some (.again ((s6++x3001),s25,s26,(w6 (s27+1))))) none) (some (.leave (s6,s25,s26,s27)))
def zbj.r2 (N:Nat) (x:(List Int) × (List (List Int)) × Int × Int):=zbj.b2 N x.1 x.2.1 x.2.2.1 x.2.2.2
def zbj (N:Nat) (a0:List (List Int)):Option ((List Int)):=
 (zi (zbj.r0 N) N (a0,0,a0,(a0.length:Int),0)).bind fun y1=>(zkc () y1.2.1).bind fun r2=>
  (zi (zbj.r2 N) N (r2,y1.1,(y1.1.length:Int),0)).bind fun y3=>some y3.1
def zbj.k (N:Nat):Kq:=⟨331,(ctv [.val (Ty.sl (Ty.sl (Ty.int .u8)))] [(Ty.sl (Ty.int .u8))] [] [0] [(Ty.sl (Ty.sl (Ty.int .u8)))] (zbj N)),go [zkc.k] {} [(0,.plain {slots:=[(0,.val (Ty.sl (Ty.sl (Ty.int .u8)))),(3,.val T6),(9,.val (Ty.sl (Ty.sl (Ty.int .u8)))),(10,.val T6),(11,.val T6)],boxes:=[]} [(Ty.sl (Ty.sl (Ty.int .u8))),T6,(Ty.sl (Ty.sl (Ty.int .u8))),T6,T6] (zi (zbj.r0 N) N)),(2,.plain {slots:=[(6,.own 5000006 (Ty.int .u8)),(25,.val (Ty.sl (Ty.sl (Ty.int .u8)))),(26,.val T6),(27,.val T6)],boxes:=[]} [(Ty.sl (Ty.int .u8)),(Ty.sl (Ty.sl (Ty.int .u8))),T6,T6] (zi (zbj.r2 N) N))] Proofs.Tryz.func331 (hL:=⟨⟨_,_,rfl,by kernel_rfl⟩,⟨_,_,rfl,by kernel_rfl⟩,trivial⟩)⟩
def zj0 (N:Nat) (a0:Pointer):Option ByteArray:=
 (zcq N a0.Kind 1).bind fun r1=>(zcq N 0 1).bind fun r2=>(zcq N a0.Authority 2).bind fun r3=>(zcq N a0.Address.yF 6).bind fun r4=>
  (zcq N a0.Address.Offset 6).bind fun r5=>(zbj N ([r1,r2,r3,r4,r5]:List (List Int))).bind fun r6=>some (zhq r6)
def zj0.k (N:Nat):Kq:=⟨308,(cvv [Ty.str] [Ty.Pointer] (zj0 N)),go [zbj.k N,zcq.k N] {lits:=[5,6,9,13,17,18]} [] Proofs.Tryz.func308⟩
def zcs (N:Nat) (a0:Storage) (a1:Int) (a2:Pointer):Option (Storage × Int):=
 (zi0 N a0 a1).bind fun r1=>cond (r1 !=0) (some ((⟨(⟨#[]⟩:ByteArray),[]⟩:Storage),r1)) ((zdu a2).bind fun r2=>cond (r2 !=0)
  (some ((⟨(⟨#[]⟩:ByteArray),[]⟩:Storage),r2)) ((zj0 N a2).bind fun r3=>(zkz a0 a1 r3).bind fun r4=>
  if 0≤(w6 (a1.tdiv 16))then(if(w6 (a1.tdiv 16))<(r4.Tags.length:Int)then((r4.Tags[(w6 (a1.tdiv 16)).toNat]?).bind fun x5=>
  some ((⟨r4.Bytes,(r4.Tags.set ((w6 (a1.tdiv 16)).toNat) true)⟩:Storage),0))else none)else none))
def zcs.k (N:Nat):Kq:=⟨245,(cvv [Ty.Storage,T6] [Ty.Storage,T6,Ty.Pointer] (zcs N)),go [zkz.k,zdu.k,zi0.k N,zj0.k N] {lits:=[27]} [] Proofs.Tryz.func245⟩
def zb9.b0 (N:Nat) (s4:Int) (s5:Int) (b1:Number):Option (Stp (Int × Int × Number)):=
 cond (decide (s5<s4)) (some (.again (s4,(w6 (s5+1)),(⟨(w6 (b1.N.tdiv 10)),b1.Scale⟩:Number)))) (some (.leave (s4,s5,b1)))
end
end Go.Proofs.YtbmfjmakahmclaaGreatDoor.M
