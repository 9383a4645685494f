/- What the program's functions compute, each tied to its code: part 1. -/
import Derived.Test.YtbmfjmakahmclaaGreatDoorF0
namespace Go.Proofs.YtbmfjmakahmclaaGreatDoor.M
open Go Go.Amx
set_option linter.unusedVariables false
set_option maxRecDepth 100000
noncomputable section
def zak.r2 (N:Nat) (x:(List zR) × Int × Int × zO × zY):=zak.b2 N x.1 x.2.1 x.2.2.1 x.2.2.2.1 x.2.2.2.2
def zak.b4 (N:Nat) (s87:List zX) (s88:Int) (s89:Int) (b1:zO) (b2:zY):Option (Round (zY × Int) ((List zX) × Int × Int × zO × zY)):=
 cond (decide (s89<s88)) ((idx s87 s89).bind fun x5001=>(zkl b1 x5001).bind fun r5002=>cond (r5002 !=0) (some (.result ((⟨3,s89⟩:zY),r5002)))
  (some (.again (s87,s88,(w6 (s89+1)),b1,b2)))) (some (.leave (s87,s88,s89,b1,b2)))
def zak.r4 (N:Nat) (x:(List zX) × Int × Int × zO × zY):=zak.b4 N x.1 x.2.1 x.2.2.1 x.2.2.2.1 x.2.2.2.2
def zak (N:Nat) (a0:zO):Option (zY × Int):=
 (cond (decide ((a0.zV.length:Int)>24)) (some true) (some (decide ((a0.zA.length:Int)>40)))).bind fun g1=>(cond g1 (some true)
  (some (decide ((a0.yI.length:Int)>6)))).bind fun g2=>(zcg g2 2).bind fun r3=>(zcg ((a0.zA.length:Int)==0) 1).bind fun r4=>
  (zdu N ([r3,r4]:List Int)).bind fun r5=>cond (r5 !=0) (some ((⟨0,0⟩:zY),r5))
  ((zo (zak.r0 N) N ((a0.zV.length:Int),0,a0,(⟨0,0⟩:zY))).bind fun z7=>zbu z7 (fun z=>some z) (fun y6=>
  (za6 N y6.2.2.1.zV).bind fun r8=>cond (decide (r8.2>24)) (some ((⟨0,0⟩:zY),30))
  ((zo (zak.r2 N) N (y6.2.2.1.zA,(y6.2.2.1.zA.length:Int),0,y6.2.2.1,y6.2.2.2)).bind fun z10=>zbu z10 (fun z=>some z) (fun y9=>
  (zo (zak.r4 N) N (y9.2.2.2.1.yI,(y9.2.2.2.1.yI.length:Int),0,y9.2.2.2.1,y9.2.2.2.2)).bind fun z12=>zbu z12 (fun z=>some z) (fun y11=>
  some ((⟨0,0⟩:zY),0))))))
def zak.k (N:Nat):Kq:=⟨105,(cvv [Ty.zY,T6] [Ty.zO] (zak N)),go [za6.k N,zdu.k N,zcg.k,zkk.k N,zcv.k N,zkl.k] {lits:=[33,38,39]} [(0,.rets {slots:=[(1,.ptr 1 0),(2,.ptr 2 0),(47,.val T6),(48,.val T6)],boxes:=[(1,Ty.zO,[]),(2,Ty.zY,[])]} [T6,T6,Ty.zO,Ty.zY] (zo (zak.r0 N) N)),(2,.rets {slots:=[(1,.ptr 1 0),(2,.ptr 2 0),(70,.val (Ty.sl Ty.zR)),(71,.val T6),(72,.val T6)],boxes:=[(1,Ty.zO,[]),(2,Ty.zY,[])]} [(Ty.sl Ty.zR),T6,T6,Ty.zO,Ty.zY] (zo (zak.r2 N) N)),(4,.rets {slots:=[(1,.ptr 1 0),(2,.ptr 2 0),(87,.val (Ty.sl Ty.zX)),(88,.val T6),(89,.val T6)],boxes:=[(1,Ty.zO,[]),(2,Ty.zY,[])]} [(Ty.sl Ty.zX),T6,T6,Ty.zO,Ty.zY] (zo (zak.r4 N) N))] Proofs.Tryz.func105 (hL:=⟨⟨_,_,rfl,by kernel_rfl⟩,⟨_,_,rfl,by kernel_rfl⟩,⟨_,_,rfl,by kernel_rfl⟩,trivial⟩)⟩
def zi3 (N:Nat) (a0:zO):Option Int:=
 (zak N a0).bind fun r1=>some r1.2
def zi3.k (N:Nat):Kq:=⟨62,(cvv [T6] [Ty.zO] (zi3 N)),go [zak.k N] {} [] Proofs.Tryz.func62⟩
def zfj.b0 (N:Nat) (s5:List Int) (s6:Int) (s7:Int):Option (Round Int ((List Int) × Int × Int)):=
 cond (decide (s7<s6)) ((idx s5 s7).bind fun x1001=>cond (x1001 !=0) (some (.result x1001)) (some (.again (s5,s6,(w6 (s7+1)))))) (some (.leave (s5,s6,s7)))
def zfj.r0 (N:Nat) (x:(List Int) × Int × Int):=zfj.b0 N x.1 x.2.1 x.2.2
def zfj (N:Nat) (a0:List Int):Option Int:=
 (zo (zfj.r0 N) N (a0,(a0.length:Int),0)).bind fun z2=>zbu z2 (fun z=>some z) (fun y1=>some 0)
def zfj.k (N:Nat):Kq:=⟨44,(cvv [T6] [(Ty.sl T6)] (zfj N)),go [] {} [(0,.rets {slots:=[(5,.val (Ty.sl T6)),(6,.val T6),(7,.val T6)],boxes:=[]} [(Ty.sl T6),T6,T6] (zo (zfj.r0 N) N))] Proofs.Tryz.func44 (hL:=⟨⟨_,_,rfl,by kernel_rfl⟩,trivial⟩)⟩
def zha (N:Nat) (a0:zO):Option Int:=
 (zak N a0).bind fun r1=>some r1.2
def zha.k (N:Nat):Kq:=⟨108,(cvv [T6] [Ty.zO] (zha N)),go [zak.k N] {} [] Proofs.Tryz.func108⟩
def zno (N:Nat) (a0:zO):Option ((List Int) × Int × Int):=
 (zha N a0).bind fun r1=>cond (r1 !=0) (some ([],0,r1)) ((za6 N a0.zV).bind fun r2=>some (r2.1,r2.2,0))
def zno.k (N:Nat):Kq:=⟨64,(cvv [(Ty.sl T6),T6,T6] [Ty.zO] (zno N)),go [zha.k N,za6.k N] {} [] Proofs.Tryz.func64⟩
def z1y:Ct U:={params:=[.val Ty.str,.val T6],results:=[Ty.str],outs:=[],fresh:=[],fn:=app U [Ty.str,T6] (R:=PT U [Ty.str]) (zt8)}
theorem z1y.meets:ziv (ztv [] [] [] [] [] [] [] []) 187 z1y:=
 z69 ⟨_,Proofs.Tryz.func187,rfl,by kernel_rfl⟩ (t:=Ty.str) rfl rfl rfl rfl fun ds y hy E0 h0 ha μ H w us hA hm hG=>by
  obtain⟨s,n,rfl,hx⟩:=app2 hy;unfold zt8 at hx;split at hx
  · rename_i hn;cases hx;have hE:some ([.sc (.string s),.sc (.int .i64 n)],[])=some (E0,h0):=ha;cases hE;cases hA with
    | cons h1 h2=>
     cases h2 with
     | cons h2 h3=>
      cases h3;have hu:=h1.int;have hu2:=h2.int;subst hu hu2;refine⟨_,rfl,?_⟩;have hc:=Proofs.Tryz.strings_Repeat s n.toNat w (by omega) hn.2.2;have he:((n.toNat:Nat):Int)=n:=by omega
      rw [he]at hc;exact hc.mono fun e w' hh=>⟨_,hh.1,z6s hh.2,.sc _⟩
  · cases hx
def z1y.k:Kq:=⟨187,z1y,z1y.meets⟩
def zk6 (a0:Int):Option (Storage × Int):=
 (ze7 a0 0 64).bind fun r1=>cond (!r1) (some ((⟨(⟨#[]⟩:ByteArray),[]⟩:Storage),3)) ((zt8 (⟨#[0]⟩:ByteArray) (w6 (a0*16))).bind fun r2=>
  if 0≤a0 then(if a0≤a0 then(cond (Nat.ble (a0.toNat*1) zr) (some ((⟨r2,(List.replicate a0.toNat (false:Bool))⟩:Storage),0)) none)else none)else none)
def zk6.k:Kq:=⟨110,(cvv [Ty.Storage,T6] [T6] zk6),go [ze7.k,z1y.k] {} [] Proofs.Tryz.func110⟩
def zcj.b0 (N:Nat) (s0:Int) (s5:List Int) (s6:Int):Option (Stp (Int × (List Int) × Int)):=
 cond (decide (s6≥0)) (if 0≤s6 then(if s6<(s5.length:Int)then((s5[s6.toNat]?).bind fun x1001=>
  some (.again ((w6 (s0.tdiv 10)),(s5.set s6.toNat (IntKind.wrap .u8 (s0.tmod 10))),(w6 (s6-1)))))else none)else none)
  (some (.leave (s0,s5,s6)))
def zcj.r0 (N:Nat) (x:Int × (List Int) × Int):=zcj.b0 N x.1 x.2.1 x.2.2
def zcj (N:Nat) (a0:Int) (a1:Int):Option ((List Int)):=
 if 0≤a1 then(if a1≤a1 then(cond (Nat.ble (a1.toNat*1) zr)
  ((zh (zcj.r0 N) N (a0,(List.replicate a1.toNat (0:Int)),(w6 (a1-1)))).bind fun y1=>some y1.2.1) none)else none)else none
def zcj.k (N:Nat):Kq:=⟨270,(ctv [.val T6,.val T6] [(Ty.sl (Ty.int .u8))] [] [0] [T6,T6] (zcj N)),go [] {} [(0,.plain {slots:=[(0,.val T6),(5,.own 5000005 (Ty.int .u8)),(6,.val T6)],boxes:=[]} [T6,(Ty.sl (Ty.int .u8)),T6] (zh (zcj.r0 N) N))] Proofs.Tryz.func270 (hL:=⟨⟨_,_,rfl,by kernel_rfl⟩,trivial⟩)⟩
def zbs.b0 (N:Nat) (s0:List Int) (s3:List Int) (s4:Int):Option (Stp ((List Int) × (List Int) × Int)):=
 cond (decide (s4<(s0.length:Int))) ((idx s0 s4).bind fun x1001=>(idx s0 (w6 (s4+1))).bind fun x1002=>
  cond (Nat.ble ((s3.length+([(orI .u8 (IntKind.wrap .u8 (x1001*2^(min (4:Int).toNat 8))) x1002)]:List Int).length)*1) zr)
  (some (.again (s0,(s3++([(orI .u8 (IntKind.wrap .u8 (x1001*2^(min (4:Int).toNat 8))) x1002)]:List Int)),(w6 (s4+2))))) none)
  (some (.leave (s0,s3,s4)))
def zbs.r0 (N:Nat) (x:(List Int) × (List Int) × Int):=zbs.b0 N x.1 x.2.1 x.2.2
def zbs (N:Nat) (a0:List Int):Option ByteArray:=
 (zh (zbs.r0 N) N (a0,[],0)).bind fun y1=>some (zdg y1.2.1)
def zbs.k (N:Nat):Kq:=⟨271,(cvv [Ty.str] [(Ty.sl (Ty.int .u8))] (zbs N)),go [] {lits:=[23]} [(0,.plain {slots:=[(0,.val (Ty.sl (Ty.int .u8))),(3,.own 5000003 (Ty.int .u8)),(4,.val T6)],boxes:=[]} [(Ty.sl (Ty.int .u8)),(Ty.sl (Ty.int .u8)),T6] (zh (zbs.r0 N) N))] Proofs.Tryz.func271 (hL:=⟨⟨_,_,rfl,by kernel_rfl⟩,trivial⟩)⟩
def zao.b1 (N:Nat) (s5:List Int) (s25:Int) (s26:Int) (b3:Value):Option (Stp ((List Int) × Int × Int × Value)):=
 cond (decide (s26<s25)) (if 0≤s26 then(if s26<(s5.length:Int)then((s5[s26.toNat]?).bind fun x2001=>
  if 0≤s26 then(if s26<(s5.length:Int)then((s5[s26.toNat]?).bind fun x2002=>
  some (.again ((s5.set s26.toNat (IntKind.wrap .u8 (x2001+240))),s25,(w6 (s26+1)),b3)))else none)else none)else none)else none)
  (some (.leave (s5,s25,s26,b3)))
def zao.r1 (N:Nat) (x:(List Int) × Int × Int × Value):=zao.b1 N x.1 x.2.1 x.2.2.1 x.2.2.2
def zao.b3 (N:Nat) (s8:List Int) (s9:Int) (s10:Int):Option (Stp ((List Int) × Int × Int)):=
 cond (decide (s9≥0)) (if 0≤s9 then(if s9<(s8.length:Int)then((s8[s9.toNat]?).bind fun x4001=>
  some (.again ((s8.set s9.toNat (IntKind.wrap .u8 s10)),(w6 (s9-1)),(s10.fdiv (2^(min (8:Int).toNat 64))))))else none)else none)
  (some (.leave (s8,s9,s10)))
def zao.r3 (N:Nat) (x:(List Int) × Int × Int):=zao.b3 N x.1 x.2.1 x.2.2
def zao (N:Nat) (a0:DataType) (a1:Value):Option ByteArray:=
 (zcj N (if(w6 (0-a1.N))>a1.N then(w6 (0-a1.N))else a1.N) a0.Length).bind fun r1=>cond (a0.Kind==2)
  ((zh (zao.r1 N) N (r1,(r1.length:Int),0,a1)).bind fun y2=>cond (decide (y2.2.2.2.N<0))
  (if 0≤(w6 ((y2.1.length:Int)-1))then(if(w6 ((y2.1.length:Int)-1))<(y2.1.length:Int)then((y2.1[(w6 ((y2.1.length:Int)-1)).toNat]?).bind fun x3=>
  if 0≤(w6 ((y2.1.length:Int)-1))then(if(w6 ((y2.1.length:Int)-1))<(y2.1.length:Int)then((y2.1[(w6 ((y2.1.length:Int)-1)).toNat]?).bind fun x4=>
  some (zdg (y2.1.set ((w6 ((y2.1.length:Int)-1)).toNat) (IntKind.wrap .u8 (x3-32)))))else none)else none)else none)else none) (some (zdg y2.1)))
  (cond (a0.Kind==1) (cond (decide (a1.N<0)) (cond (((r1.length:Int).tmod 2)==0) (cond (Nat.ble ((([0]:List Int).length+r1.length)*1) zr)
  (cond (Nat.ble (((([0]:List Int)++r1).length+([13]:List Int).length)*1) zr) ((zbs N ((([0]:List Int)++r1)++([13]:List Int))).bind fun r5=>
  some r5) none) none) (cond (Nat.ble ((r1.length+([13]:List Int).length)*1) zr) ((zbs N (r1++([13]:List Int))).bind fun r6=>some r6) none))
  (cond (((r1.length:Int).tmod 2)==0) (cond (Nat.ble ((([0]:List Int).length+r1.length)*1) zr)
  (cond (Nat.ble (((([0]:List Int)++r1).length+([15]:List Int).length)*1) zr) ((zbs N ((([0]:List Int)++r1)++([15]:List Int))).bind fun r7=>
  some r7) none) none) (cond (Nat.ble ((r1.length+([15]:List Int).length)*1) zr) ((zbs N (r1++([15]:List Int))).bind fun r8=>some r8) none)))
  (cond (a0.Kind==3) ((zii a0).bind fun r9=>if 0≤r9 then(if r9≤r9 then(cond (Nat.ble (r9.toNat*1) zr)
  ((zh (zao.r3 N) N ((List.replicate r9.toNat (0:Int)),(w6 (((List.replicate r9.toNat (0:Int)).length:Int)-1)),a1.N)).bind fun y10=>
  some (zdg y10.1)) none)else none)else none) (some a1.S)))
def zao.k (N:Nat):Kq:=⟨189,(cvv [Ty.str] [Ty.DataType,Ty.Value] (zao N)),go [zcj.k N,zbs.k N,zii.k] {lits:=[16,63,64]} [(1,.plain {slots:=[(3,.ptr 3 0),(5,.own 5000005 (Ty.int .u8)),(25,.val T6),(26,.val T6)],boxes:=[(3,Ty.Value,[])]} [(Ty.sl (Ty.int .u8)),T6,T6,Ty.Value] (zh (zao.r1 N) N)),(3,.plain {slots:=[(8,.own 5000008 (Ty.int .u8)),(9,.val T6),(10,.val T6)],boxes:=[]} [(Ty.sl (Ty.int .u8)),T6,T6] (zh (zao.r3 N) N))] Proofs.Tryz.func189 (hL:=⟨⟨_,_,rfl,by kernel_rfl⟩,⟨_,_,rfl,by kernel_rfl⟩,trivial⟩)⟩
def zh5 (N:Nat) (a0:DataType) (a1:Value):Option (ByteArray × Int):=
 (zef N a0 a1).bind fun r1=>cond (r1 !=0) (some ((⟨#[]⟩:ByteArray),r1)) ((zao N a0 a1).bind fun r2=>some (r2,0))
def zh5.k (N:Nat):Kq:=⟨111,(cvv [Ty.str,T6] [Ty.DataType,Ty.Value] (zh5 N)),go [zef.k N,zao.k N] {} [] Proofs.Tryz.func111⟩
def zl6 (N:Nat) (a0:Storage) (a1:Int) (a2:Int):Option Int:=
 (zt N a0).bind fun r1=>cond (r1.2 !=0) (some r1.2) ((cond (decide (a1<0)) (some true) (some (decide (a2<0)))).bind fun g2=>(cond g2 (some true)
  (some (decide (a1>(a0.Bytes.size:Int))))).bind fun g3=>(cond g3 (some true) (some (decide (a2>(w6 ((a0.Bytes.size:Int)-a1)))))).bind fun g4=>
  cond g4 (some 3) (some 0))
def zl6.k (N:Nat):Kq:=⟨190,(cvv [T6] [Ty.Storage,T6,T6] (zl6 N)),go [zt.k N] {} [] Proofs.Tryz.func190⟩
def zni (a0:Storage) (a1:Int) (a2:ByteArray):Option Storage:=
 if 0≤a1∧a1≤(a0.Bytes.size:Int)then(if 0≤(0:Int)∧(0:Int)≤a1 then(if(((a0.Bytes.extract (0:Int).toNat a1.toNat).size+a2.size:Nat):Int)>IntKind.i64.max then none else if 0≤(w6 (a1+(a2.size:Int)))∧(w6 (a1+(a2.size:Int)))≤(a0.Bytes.size:Int)then(if((((a0.Bytes.extract (0:Int).toNat a1.toNat)++a2).size+(a0.Bytes.extract (w6 (a1+(a2.size:Int))).toNat a0.Bytes.size).size:Nat):Int)>IntKind.i64.max then none else(zdk 1 a0.Tags).bind fun r1=>
  cond (!(a2.toList==(⟨#[]⟩:ByteArray).toList))
  (if 0≤(w6 ((w6 ((w6 ((w6 (a1+(a2.size:Int)))-1)).tdiv 16))+1))∧(w6 ((w6 ((w6 ((w6 (a1+(a2.size:Int)))-1)).tdiv 16))+1))≤(r1.length:Int)then(if 0≤(w6 (a1.tdiv 16))∧(w6 (a1.tdiv 16))≤(w6 ((w6 ((w6 ((w6 (a1+(a2.size:Int)))-1)).tdiv 16))+1))then(some (⟨(((a0.Bytes.extract (0:Int).toNat a1.toNat)++a2)++(a0.Bytes.extract (w6 (a1+(a2.size:Int))).toNat a0.Bytes.size)),(r1.take ((w6 (a1.tdiv 16)).toNat)++List.replicate ((w6 ((w6 ((w6 ((w6 (a1+(a2.size:Int)))-1)).tdiv 16))+1)).toNat-(w6 (a1.tdiv 16)).toNat)
  (false:Bool)++r1.drop ((w6 (a1.tdiv 16)).toNat+((w6 ((w6 ((w6 ((w6 (a1+(a2.size:Int)))-1)).tdiv 16))+1)).toNat-(w6 (a1.tdiv 16)).toNat)))⟩:Storage))else none)else none)
  (some (⟨(((a0.Bytes.extract (0:Int).toNat a1.toNat)++a2)++(a0.Bytes.extract (w6 (a1+(a2.size:Int))).toNat a0.Bytes.size)),r1⟩:Storage)))else none)else none)else none
def zni.k:Kq:=⟨191,(ctv [.val Ty.Storage,.val T6,.val Ty.str] [Ty.Storage] [] [1] [Ty.Storage,T6,Ty.str] zni),go [x58.k] {} [] Proofs.Tryz.func191⟩
def zgl (N:Nat) (a0:Storage) (a1:Int) (a2:ByteArray):Option (Storage × Int):=
 (zl6 N a0 a1 (a2.size:Int)).bind fun r1=>cond (r1 !=0) (some ((⟨(⟨#[]⟩:ByteArray),[]⟩:Storage),r1)) ((zni a0 a1 a2).bind fun r2=>some (r2,0))
def zgl.k (N:Nat):Kq:=⟨112,(cvv [Ty.Storage,T6] [Ty.Storage,T6,Ty.str] (zgl N)),go [zl6.k N,zni.k] {lits:=[12]} [] Proofs.Tryz.func112⟩
def zcw.b0 (N:Nat) (s5:List Int) (s8:Int) (s31:List zK) (s32:Int) (s33:Int) (b2:Storage) (b7:Storage):Option (Round (Storage × Int) ((List Int) × Int × (List zK) × Int × Int × Storage × Storage)):=
 cond (decide (s33<s32)) ((idx s31 s33).bind fun x1001=>(cond (x1001.Kind !=0) (some true) (some (s8 !=0))).bind fun g1002=>
  cond g1002 (some (.again (s5,s8,s31,s32,(w6 (s33+1)),b2,b7))) ((zh5 N x1001.zF x1001.Value).bind fun r1003=>cond (r1003.2 !=0)
  (some (.result ((⟨(⟨#[]⟩:ByteArray),[]⟩:Storage),r1003.2))) ((idx s5 s33).bind fun x1004=>(zgl N b7 x1004 r1003.1).bind fun r1005=>
  some (.again (s5,r1005.2,s31,s32,(w6 (s33+1)),b2,r1005.1))))) (some (.leave (s5,s8,s31,s32,s33,b2,b7)))
def zcw.r0 (N:Nat) (x:(List Int) × Int × (List zK) × Int × Int × Storage × Storage):=zcw.b0 N x.1 x.2.1 x.2.2.1 x.2.2.2.1 x.2.2.2.2.1 x.2.2.2.2.2.1 x.2.2.2.2.2.2
def zcw (N:Nat) (a0:zO):Option (Storage × Int):=
 (zha N a0).bind fun r1=>cond (r1 !=0) (some ((⟨(⟨#[]⟩:ByteArray),[]⟩:Storage),r1)) ((za6 N a0.zV).bind fun r2=>
  (zk6 r2.2).bind fun r3=>
  (zo (zcw.r0 N) N (r2.1,r3.2,a0.zV,(a0.zV.length:Int),0,(⟨(⟨#[]⟩:ByteArray),[]⟩:Storage),r3.1)).bind fun z5=>zbu z5 (fun z=>
  some z) (fun y4=>some (y4.2.2.2.2.2.2,y4.2.1)))
def zcw.k (N:Nat):Kq:=⟨65,(cvv [Ty.Storage,T6] [Ty.zO] (zcw N)),go [zha.k N,za6.k N,zk6.k,zh5.k N,zgl.k N] {} [(0,.rets {slots:=[(2,.ptr 2 0),(5,.val (Ty.sl T6)),(7,.ptr 7 0),(8,.val T6),(31,.val (Ty.sl Ty.zK)),(32,.val T6),(33,.val T6)],boxes:=[(2,Ty.Storage,[1]),(7,Ty.Storage,[])]} [(Ty.sl T6),T6,(Ty.sl Ty.zK),T6,T6,Ty.Storage,Ty.Storage] (zo (zcw.r0 N) N))] Proofs.Tryz.func65 (hL:=⟨⟨_,_,rfl,by kernel_rfl⟩,trivial⟩)⟩
def zc (a0:zI) (a1:zB):Option zI:=
 cond (Nat.ble ((a0.code.length+([a1]:List zB).length)*224) zr)
  (some (⟨a0.zO,a0.layout,(a0.code++([a1]:List zB))⟩:zI)) none
def zc.k:Kq:=⟨67,(ctv [.ptr Ty.zI true [4],.val Ty.zB] [] [Ty.zI] [] [Ty.zI,Ty.zB] zc),go [] {lits:=[10],pk:=[1000000]} [] Proofs.Tryz.func67⟩
def zek (a0:zK):Option Bool:=
 some (a0.zF.Kind !=0)
def zek.k:Kq:=⟨192,(cvv [Ty.bool] [Ty.zK] zek),go [] {} [] Proofs.Tryz.func192⟩
def zbq (a0:zK):Option Bool:=
 some (a0.Kind==4)
def zbq.k:Kq:=⟨193,(cvv [Ty.bool] [Ty.zK] zbq),go [] {} [] Proofs.Tryz.func193⟩
def zfn (a0:zK) (a1:zK):Option Bool:=
 some (a0.Name.toList==a1.Base.toList)
def zfn.k:Kq:=⟨273,(ctv [.val Ty.zK,.ptr Ty.zK false []] [Ty.bool] [] [] [Ty.zK,Ty.zK] zfn),go [] {ro:=[1000000],pk:=[1000000]} [] Proofs.Tryz.func273⟩
def zaz.b0 (N:Nat) (s0:List zK) (s7:Int) (s8:Int) (b1000000:zK):Option (Round Int ((List zK) × Int × Int × zK)):=
 cond (decide (s8<s7)) ((idx s0 s8).bind fun x1001=>(zfn x1001 b1000000).bind fun r1002=>cond r1002 (some (.result s8))
  (some (.again (s0,s7,(w6 (s8+1)),b1000000)))) (some (.leave (s0,s7,s8,b1000000)))
def zaz.r0 (N:Nat) (x:(List zK) × Int × Int × zK):=zaz.b0 N x.1 x.2.1 x.2.2.1 x.2.2.2
def zaz (N:Nat) (a0:List zK) (a1:zK):Option Int:=
 (zo (zaz.r0 N) N (a0,(a0.length:Int),0,a1)).bind fun z2=>zbu z2 (fun z=>some z) (fun y1=>some (-1))
def zaz.k (N:Nat):Kq:=⟨262,(ctv [.val (Ty.sl Ty.zK),.clo 273 1,.ptr Ty.zK false []] [T6] [] [] [(Ty.sl Ty.zK),Ty.zK] (zaz N)),go [zfn.k] {ro:=[1000000],pk:=[1000000]} [(0,.rets {slots:=[(0,.val (Ty.sl Ty.zK)),(1,.fn 273 [1000000]),(7,.val T6),(8,.val T6)],boxes:=[(1000000,Ty.zK,[])]} [(Ty.sl Ty.zK),T6,T6,Ty.zK] (zo (zaz.r0 N) N))] Proofs.Tryz.func262 (hL:=⟨⟨_,_,rfl,by kernel_rfl⟩,trivial⟩)⟩
def zq (N:Nat) (a0:zI) (a1:Int):Option zN:=
 (idx a0.zO.zV a1).bind fun x1=>cond (x1.Kind !=2) ((idx a0.layout a1).bind fun x2=>some (⟨false,0,x2⟩:zN))
  ((zaz N a0.zO.zV x1).bind fun r3=>(idx a0.layout r3).bind fun x4=>some (⟨true,x4,x1.Offset⟩:zN))
def zq.k (N:Nat):Kq:=⟨194,(ctv [.ptr Ty.zI false [],.val T6] [Ty.zN] [] [] [Ty.zI,T6] (zq N)),go [zaz.k N] {ro:=[1000000],pk:=[1000000]} [] Proofs.Tryz.func194⟩
def zal (N:Nat) (a0:zI) (a1:Int) (a2:Int):Option zI:=
 (idx a0.zO.zV a2).bind fun x1=>(zbq x1).bind fun r2=>
  cond r2 ((zc a0 (⟨2,a1,0,0,0,(⟨false,0,0⟩:zN),(⟨false,0,0⟩:zN),(⟨0,0,0⟩:DataType),(⟨0,0,0⟩:DataType),false,false,(⟨x1.Value.N,x1.zF.Scale⟩:Number),(⟨#[]⟩:ByteArray),(⟨#[]⟩:ByteArray),0,0,0,0⟩:zB)).bind fun r3=>
  some r3) ((zq N a0 a2).bind fun r4=>
  (zc a0 (⟨0,a1,0,0,0,r4,(⟨false,0,0⟩:zN),x1.zF,(⟨0,0,0⟩:DataType),false,false,(⟨0,0⟩:Number),(⟨#[]⟩:ByteArray),(⟨#[]⟩:ByteArray),0,0,0,0⟩:zB)).bind fun r5=>
  some r5)
def zal.k (N:Nat):Kq:=⟨117,(ctv [.ptr Ty.zI true [4],.val T6,.val T6] [] [Ty.zI] [] [Ty.zI,T6,T6] (zal N)),go [zc.k,zbq.k,zq.k N] {lits:=[32],pk:=[1000000]} [] Proofs.Tryz.func117⟩
def zcm (N:Nat) (a0:zI) (a1:Int) (a2:Bool):Option zI:=
 (zq N a0 a1).bind fun r1=>(idx a0.zO.zV a1).bind fun x2=>
  (zc a0 (⟨1,0,0,0,0,r1,(⟨false,0,0⟩:zN),x2.zF,(⟨0,0,0⟩:DataType),a2,false,(⟨0,0⟩:Number),(⟨#[]⟩:ByteArray),(⟨#[]⟩:ByteArray),0,0,0,0⟩:zB)).bind fun r3=>
  some r3
def zcm.k (N:Nat):Kq:=⟨118,(ctv [.ptr Ty.zI true [4],.val T6,.val Ty.bool] [] [Ty.zI] [] [Ty.zI,T6,Ty.bool] (zcm N)),go [zc.k,zq.k N] {lits:=[9],pk:=[1000000]} [] Proofs.Tryz.func118⟩
def zhc (N:Nat) (a0:zI) (a1:zR):Option zI:=
 (idx a1.Args 0).bind fun x1=>(idx a1.Args 1).bind fun x2=>(idx a0.zO.zV x1).bind fun x3=>(idx a0.zO.zV x2).bind fun x4=>
  (zek x3).bind fun r5=>cond r5 ((zal N a0 0 x2).bind fun r6=>(zcm N r6 x1 (a1.Op==1)).bind fun r7=>some r7)
  ((zbq x4).bind fun r8=>cond r8 ((zq N a0 x1).bind fun r9=>
  (zc a0 (⟨10,0,0,0,0,r9,(⟨false,0,0⟩:zN),x3.zF,(⟨0,0,0⟩:DataType),false,false,(⟨0,0⟩:Number),x4.Value.S,(⟨#[]⟩:ByteArray),0,0,0,0⟩:zB)).bind fun r10=>
  some r10) ((zq N a0 x1).bind fun r11=>(zq N a0 x2).bind fun r12=>
  (zc a0 (⟨9,0,0,0,0,r11,r12,x3.zF,x4.zF,false,false,(⟨0,0⟩:Number),(⟨#[]⟩:ByteArray),(⟨#[]⟩:ByteArray),0,0,0,0⟩:zB)).bind fun r13=>
  some r13))
def zhc.k (N:Nat):Kq:=⟨113,(ctv [.ptr Ty.zI true [4],.val Ty.zR] [] [Ty.zI] [] [Ty.zI,Ty.zR] (zhc N)),go [zc.k,zal.k N,zcm.k N,zek.k,zbq.k,zq.k N] {lits:=[35,40,63],pk:=[1000000]} [] Proofs.Tryz.func113⟩
def zfh (N:Nat) (a0:zI) (a1:zR):Option zI:=
 (idx a1.Args 1).bind fun x1=>(zal N a0 0 x1).bind fun r2=>(idx a1.Args 2).bind fun x3=>(zal N r2 1 x3).bind fun r4=>
  (idx a1.Args 0).bind fun x5=>(idx r4.zO.zV x5).bind fun x6=>
  (zc r4 (⟨4,0,0,1,(w6 ((w6 (a1.Op-2))+0)),(⟨false,0,0⟩:zN),(⟨false,0,0⟩:zN),x6.zF,(⟨0,0,0⟩:DataType),false,false,(⟨0,0⟩:Number),(⟨#[]⟩:ByteArray),(⟨#[]⟩:ByteArray),0,0,0,0⟩:zB)).bind fun r7=>
  (idx a1.Args 0).bind fun x8=>(zcm N r7 x8 false).bind fun r9=>some r9
def zfh.k (N:Nat):Kq:=⟨114,(ctv [.ptr Ty.zI true [4],.val Ty.zR] [] [Ty.zI] [] [Ty.zI,Ty.zR] (zfh N)),go [zc.k,zal.k N,zcm.k N] {pk:=[1000000]} [] Proofs.Tryz.func114⟩
def zg0 (N:Nat) (a0:zI) (a1:Int) (a2:Int):Option (Bool × zI):=
 (idx a0.zO.zV a1).bind fun x1=>(idx a0.zO.zV a2).bind fun x2=>(zbq x1).bind fun r3=>
  (cond r3 ((zbq x2).bind fun r4=>some r4) (some false)).bind fun g5=>
  cond g5 ((zc a0 (⟨13,0,0,0,0,(⟨false,0,0⟩:zN),(⟨false,0,0⟩:zN),(⟨0,0,0⟩:DataType),(⟨0,0,0⟩:DataType),false,false,(⟨0,0⟩:Number),x1.Value.S,x2.Value.S,0,0,0,0⟩:zB)).bind fun r6=>
  some (false,r6)) ((zbq x2).bind fun r7=>cond r7 ((zq N a0 a1).bind fun r8=>
  (zc a0 (⟨12,0,0,0,0,r8,(⟨false,0,0⟩:zN),x1.zF,(⟨0,0,0⟩:DataType),false,false,(⟨0,0⟩:Number),x2.Value.S,(⟨#[]⟩:ByteArray),0,0,0,0⟩:zB)).bind fun r9=>
  some (false,r9)) ((zbq x1).bind fun r10=>cond r10 ((zq N a0 a2).bind fun r11=>
  (zc a0 (⟨12,0,0,0,0,r11,(⟨false,0,0⟩:zN),x2.zF,(⟨0,0,0⟩:DataType),false,false,(⟨0,0⟩:Number),x1.Value.S,(⟨#[]⟩:ByteArray),0,0,0,0⟩:zB)).bind fun r12=>
  some (true,r12)) ((zq N a0 a1).bind fun r13=>(zq N a0 a2).bind fun r14=>
  (zc a0 (⟨11,0,0,0,0,r13,r14,x1.zF,x2.zF,false,false,(⟨0,0⟩:Number),(⟨#[]⟩:ByteArray),(⟨#[]⟩:ByteArray),0,0,0,0⟩:zB)).bind fun r15=>
  some (false,r15))))
def zg0.k (N:Nat):Kq:=⟨195,(ctv [.ptr Ty.zI true [4],.val T6,.val T6] [Ty.bool] [Ty.zI] [] [Ty.zI,T6,T6] (zg0 N)),go [zc.k,zbq.k,zq.k N] {lits:=[28,33,60,74],pk:=[1000000]} [] Proofs.Tryz.func195⟩
def zgm (N:Nat) (a0:zI) (a1:zR):Option zI:=
 (idx a1.Args 0).bind fun x1=>(idx a0.zO.zV x1).bind fun x2=>(zek x2).bind fun r3=>cond r3 ((idx a1.Args 0).bind fun x4=>
  (zal N a0 0 x4).bind fun r5=>(idx a1.Args 1).bind fun x6=>(zal N r5 1 x6).bind fun r7=>
  (zc r7 (⟨5,0,0,1,0,(⟨false,0,0⟩:zN),(⟨false,0,0⟩:zN),(⟨0,0,0⟩:DataType),(⟨0,0,0⟩:DataType),false,false,(⟨0,0⟩:Number),(⟨#[]⟩:ByteArray),(⟨#[]⟩:ByteArray),0,0,0,0⟩:zB)).bind fun r8=>
  (cond (a1.Op==8) (some false) (some false)).bind fun g9=>cond g9 ((idx a1.Args 2).bind fun x10=>(idx r8.zO.zV x10).bind fun x11=>
  (zc r8 (⟨6,0,0,0,0,(⟨false,0,0⟩:zN),(⟨false,0,0⟩:zN),(⟨0,0,0⟩:DataType),(⟨0,0,0⟩:DataType),false,false,(⟨0,0⟩:Number),(⟨#[]⟩:ByteArray),(⟨#[]⟩:ByteArray),4,x11.Target,0,0⟩:zB)).bind fun r12=>
  some r12) (cond (a1.Op==8) ((idx a1.Args 2).bind fun x13=>(idx r8.zO.zV x13).bind fun x14=>
  (zc r8 (⟨6,0,0,0,0,(⟨false,0,0⟩:zN),(⟨false,0,0⟩:zN),(⟨0,0,0⟩:DataType),(⟨0,0,0⟩:DataType),false,false,(⟨0,0⟩:Number),(⟨#[]⟩:ByteArray),(⟨#[]⟩:ByteArray),1,x14.Target,0,0⟩:zB)).bind fun r15=>
  some r15) ((idx a1.Args 2).bind fun x16=>(idx r8.zO.zV x16).bind fun x17=>
  (zc r8 (⟨6,0,0,0,0,(⟨false,0,0⟩:zN),(⟨false,0,0⟩:zN),(⟨0,0,0⟩:DataType),(⟨0,0,0⟩:DataType),false,false,(⟨0,0⟩:Number),(⟨#[]⟩:ByteArray),(⟨#[]⟩:ByteArray),2,x17.Target,0,0⟩:zB)).bind fun r18=>
  some r18))) ((idx a1.Args 0).bind fun x19=>(idx a1.Args 1).bind fun x20=>(zg0 N a0 x19 x20).bind fun r21=>(cond (a1.Op==8) (some r21.1)
  (some false)).bind fun g22=>cond g22 ((idx a1.Args 2).bind fun x23=>(idx r21.2.zO.zV x23).bind fun x24=>
  (zc r21.2 (⟨6,0,0,0,0,(⟨false,0,0⟩:zN),(⟨false,0,0⟩:zN),(⟨0,0,0⟩:DataType),(⟨0,0,0⟩:DataType),false,false,(⟨0,0⟩:Number),(⟨#[]⟩:ByteArray),(⟨#[]⟩:ByteArray),4,x24.Target,0,0⟩:zB)).bind fun r25=>
  some r25) (cond (a1.Op==8) ((idx a1.Args 2).bind fun x26=>(idx r21.2.zO.zV x26).bind fun x27=>
  (zc r21.2 (⟨6,0,0,0,0,(⟨false,0,0⟩:zN),(⟨false,0,0⟩:zN),(⟨0,0,0⟩:DataType),(⟨0,0,0⟩:DataType),false,false,(⟨0,0⟩:Number),(⟨#[]⟩:ByteArray),(⟨#[]⟩:ByteArray),1,x27.Target,0,0⟩:zB)).bind fun r28=>
  some r28) ((idx a1.Args 2).bind fun x29=>(idx r21.2.zO.zV x29).bind fun x30=>
  (zc r21.2 (⟨6,0,0,0,0,(⟨false,0,0⟩:zN),(⟨false,0,0⟩:zN),(⟨0,0,0⟩:DataType),(⟨0,0,0⟩:DataType),false,false,(⟨0,0⟩:Number),(⟨#[]⟩:ByteArray),(⟨#[]⟩:ByteArray),2,x30.Target,0,0⟩:zB)).bind fun r31=>
  some r31)))
def zgm.k (N:Nat):Kq:=⟨115,(ctv [.ptr Ty.zI true [4],.val Ty.zR] [] [Ty.zI] [] [Ty.zI,Ty.zR] (zgm N)),go [zc.k,zal.k N,zek.k,zg0.k N] {pk:=[1000000]} [] Proofs.Tryz.func115⟩
def zfm (N:Nat) (a0:zI) (a1:zR):Option zI:=
 (idx a1.Args 0).bind fun x1=>(idx a0.layout x1).bind fun x2=>cond (a1.Op==10) ((idx a1.Args 1).bind fun x3=>(zq N a0 x3).bind fun r4=>
  (idx a1.Args 1).bind fun x5=>(idx a0.zO.zV x5).bind fun x6=>
  (zc a0 (⟨14,0,0,0,0,r4,(⟨false,0,0⟩:zN),x6.zF,(⟨0,0,0⟩:DataType),false,false,(⟨0,0⟩:Number),(⟨#[]⟩:ByteArray),(⟨#[]⟩:ByteArray),0,0,x2,0⟩:zB)).bind fun r7=>
  some r7) (cond (a1.Op==11) ((idx a1.Args 1).bind fun x8=>(idx a0.layout x8).bind fun x9=>
  (zc a0 (⟨15,0,0,0,0,(⟨false,0,0⟩:zN),(⟨false,0,0⟩:zN),(⟨0,0,0⟩:DataType),(⟨0,0,0⟩:DataType),false,false,(⟨0,0⟩:Number),(⟨#[]⟩:ByteArray),(⟨#[]⟩:ByteArray),0,0,x2,x9⟩:zB)).bind fun r10=>
  some r10) (cond (a1.Op==12)
  ((zc a0 (⟨17,0,0,0,0,(⟨false,0,0⟩:zN),(⟨false,0,0⟩:zN),(⟨0,0,0⟩:DataType),(⟨0,0,0⟩:DataType),false,false,(⟨0,0⟩:Number),(⟨#[]⟩:ByteArray),(⟨#[]⟩:ByteArray),0,0,x2,0⟩:zB)).bind fun r11=>
  (idx a1.Args 1).bind fun x12=>(zal N r11 0 x12).bind fun r13=>
  (zc r13 (⟨16,0,0,0,0,(⟨false,0,0⟩:zN),(⟨false,0,0⟩:zN),(⟨0,0,0⟩:DataType),(⟨0,0,0⟩:DataType),false,false,(⟨0,0⟩:Number),(⟨#[]⟩:ByteArray),(⟨#[]⟩:ByteArray),0,0,x2,0⟩:zB)).bind fun r14=>
  some r14) (some a0)))
def zfm.k (N:Nat):Kq:=⟨116,(ctv [.ptr Ty.zI true [4],.val Ty.zR] [] [Ty.zI] [] [Ty.zI,Ty.zR] (zfm N)),go [zc.k,zal.k N,zq.k N] {lits:=[26],pk:=[1000000]} [] Proofs.Tryz.func116⟩
def zg1 (N:Nat) (a0:zI) (a1:Int):Option zI:=
 (idx a0.zO.zV a1).bind fun x1=>(zek x1).bind fun r2=>cond r2 ((zal N a0 0 a1).bind fun r3=>
  (zc r3 (⟨22,0,0,0,0,(⟨false,0,0⟩:zN),(⟨false,0,0⟩:zN),(⟨0,0,0⟩:DataType),(⟨0,0,0⟩:DataType),false,false,(⟨0,0⟩:Number),(⟨#[]⟩:ByteArray),(⟨#[]⟩:ByteArray),0,0,0,0⟩:zB)).bind fun r4=>
  some r4) ((zbq x1).bind fun r5=>
  cond r5 ((zc a0 (⟨24,0,0,0,0,(⟨false,0,0⟩:zN),(⟨false,0,0⟩:zN),(⟨0,0,0⟩:DataType),(⟨0,0,0⟩:DataType),false,false,(⟨0,0⟩:Number),x1.Value.S,(⟨#[]⟩:ByteArray),0,0,0,0⟩:zB)).bind fun r6=>
  some r6) ((zq N a0 a1).bind fun r7=>
  (zc a0 (⟨23,0,0,0,0,r7,(⟨false,0,0⟩:zN),x1.zF,(⟨0,0,0⟩:DataType),false,false,(⟨0,0⟩:Number),(⟨#[]⟩:ByteArray),(⟨#[]⟩:ByteArray),0,0,0,0⟩:zB)).bind fun r8=>
  some r8))
def zg1.k (N:Nat):Kq:=⟨119,(ctv [.ptr Ty.zI true [4],.val T6] [] [Ty.zI] [] [Ty.zI,T6] (zg1 N)),go [zc.k,zal.k N,zek.k,zbq.k,zq.k N] {lits:=[16],pk:=[1000000]} [] Proofs.Tryz.func119⟩
def ze1 (N:Nat) (a0:zI) (a1:zR):Option zI:=
 (zc a0 (⟨25,0,0,0,0,(⟨false,0,0⟩:zN),(⟨false,0,0⟩:zN),(⟨0,0,0⟩:DataType),(⟨0,0,0⟩:DataType),false,false,(⟨0,0⟩:Number),(⟨#[]⟩:ByteArray),(⟨#[]⟩:ByteArray),0,0,0,0⟩:zB)).bind fun r1=>
  (cond (a1.Op==0) (some (a1.Op==0)) (some (a1.Op==1))).bind fun q2=>cond q2 ((zhc N r1 a1).bind fun r3=>some r3) ((cond (a1.Op==2)
  (some (a1.Op==2)) (cond (a1.Op==3) (some (a1.Op==3)) (cond (a1.Op==4) (some (a1.Op==4)) (cond (a1.Op==5) (some (a1.Op==5)) (some (a1.Op==6)))))).bind fun q4=>
  cond q4 ((zfh N r1 a1).bind fun r5=>some r5) ((cond (a1.Op==7) (some (a1.Op==7)) (some (a1.Op==8))).bind fun q6=>
  cond q6 ((zgm N r1 a1).bind fun r7=>some r7) (cond (a1.Op==9) ((idx a1.Args 0).bind fun x8=>(idx r1.zO.zV x8).bind fun x9=>
  (zc r1 (⟨8,0,0,0,0,(⟨false,0,0⟩:zN),(⟨false,0,0⟩:zN),(⟨0,0,0⟩:DataType),(⟨0,0,0⟩:DataType),false,false,(⟨0,0⟩:Number),(⟨#[]⟩:ByteArray),(⟨#[]⟩:ByteArray),0,x9.Target,0,0⟩:zB)).bind fun r10=>
  some r10) (cond (a1.Op==13) ((idx a1.Args 0).bind fun x11=>(idx r1.zO.zV x11).bind fun x12=>
  (zc r1 (⟨18,0,0,0,0,(⟨false,0,0⟩:zN),(⟨false,0,0⟩:zN),(⟨0,0,0⟩:DataType),(⟨0,0,0⟩:DataType),false,false,(⟨0,0⟩:Number),(⟨#[]⟩:ByteArray),(⟨#[]⟩:ByteArray),0,x12.Target,0,0⟩:zB)).bind fun r13=>
  some r13) ((cond (a1.Op==10) (some (a1.Op==10)) (cond (a1.Op==11) (some (a1.Op==11)) (some (a1.Op==12)))).bind fun q14=>
  cond q14 ((zfm N r1 a1).bind fun r15=>some r15) (cond (a1.Op==14)
  ((zc r1 (⟨19,0,0,0,0,(⟨false,0,0⟩:zN),(⟨false,0,0⟩:zN),(⟨0,0,0⟩:DataType),(⟨0,0,0⟩:DataType),false,false,(⟨0,0⟩:Number),(⟨#[]⟩:ByteArray),(⟨#[]⟩:ByteArray),0,0,0,0⟩:zB)).bind fun r16=>
  some r16) (cond (a1.Op==15) ((idx a1.Args 0).bind fun x17=>(zal N r1 0 x17).bind fun r18=>
  (zc r18 (⟨20,0,0,0,0,(⟨false,0,0⟩:zN),(⟨false,0,0⟩:zN),(⟨0,0,0⟩:DataType),(⟨0,0,0⟩:DataType),false,false,(⟨0,0⟩:Number),(⟨#[]⟩:ByteArray),(⟨#[]⟩:ByteArray),0,0,0,0⟩:zB)).bind fun r19=>
  some r19) (cond (a1.Op==16)
  ((zc r1 (⟨21,0,0,0,0,(⟨false,0,0⟩:zN),(⟨false,0,0⟩:zN),(⟨0,0,0⟩:DataType),(⟨0,0,0⟩:DataType),false,false,(⟨0,0⟩:Number),(⟨#[]⟩:ByteArray),(⟨#[]⟩:ByteArray),0,0,0,0⟩:zB)).bind fun r20=>
  (idx a1.Args 0).bind fun x21=>(zcm N r20 x21 false).bind fun r22=>some r22) (cond (a1.Op==17) ((idx a1.Args 0).bind fun x23=>
  (zg1 N r1 x23).bind fun r24=>some r24) (cond (a1.Op==18)
  ((zc r1 (⟨26,0,0,0,0,(⟨false,0,0⟩:zN),(⟨false,0,0⟩:zN),(⟨0,0,0⟩:DataType),(⟨0,0,0⟩:DataType),false,false,(⟨0,0⟩:Number),(⟨#[]⟩:ByteArray),(⟨#[]⟩:ByteArray),0,0,0,0⟩:zB)).bind fun r25=>
  some r25) (some r1)))))))))))
def ze1.k (N:Nat):Kq:=⟨66,(ctv [.ptr Ty.zI true [4],.val Ty.zR] [] [Ty.zI] [] [Ty.zI,Ty.zR] (ze1 N)),go [zc.k,zhc.k N,zfh.k N,zgm.k N,zfm.k N,zal.k N,zcm.k N,zg1.k N] {pk:=[1000000],bj:=[9,15,24,64]} [] Proofs.Tryz.func66⟩
def zeo.b0 (N:Nat) (s1:List Int) (s5:List zT) (s8:List zX) (s9:Int) (s10:Int):Option (Stp ((List Int) × (List zT) × (List zX) × Int × Int)):=
 cond (decide (s10<s9)) ((idx s8 s10).bind fun x1001=>(idx s1 x1001.From).bind fun x1002=>(idx s1 x1001.To).bind fun x1003=>(idx s1 x1001.Handler).bind fun x1004=>
  cond (Nat.ble ((s5.length+([(⟨x1002,x1003,x1001.Exception,x1004⟩:zT)]:List zT).length)*32) zr)
  (some (.again (s1,(s5++([(⟨x1002,x1003,x1001.Exception,x1004⟩:zT)]:List zT)),s8,s9,(w6 (s10+1))))) none) (some (.leave (s1,s5,s8,s9,s10)))
def zeo.r0 (N:Nat) (x:(List Int) × (List zT) × (List zX) × Int × Int):=zeo.b0 N x.1 x.2.1 x.2.2.1 x.2.2.2.1 x.2.2.2.2
def zeo (N:Nat) (a0:List zX) (a1:List Int):Option ((List zT)):=
 (zh (zeo.r0 N) N (a1,[],a0,(a0.length:Int),0)).bind fun y1=>some y1.2.1
def zeo.k (N:Nat):Kq:=⟨69,(cvv [(Ty.sl Ty.zT)] [(Ty.sl Ty.zX),(Ty.sl T6)] (zeo N)),go [] {lits:=[33]} [(0,.plain {slots:=[(1,.val (Ty.sl T6)),(5,.own 5000005 Ty.zT),(8,.val (Ty.sl Ty.zX)),(9,.val T6),(10,.val T6)],boxes:=[]} [(Ty.sl T6),(Ty.sl Ty.zT),(Ty.sl Ty.zX),T6,T6] (zh (zeo.r0 N) N))] Proofs.Tryz.func69 (hL:=⟨⟨_,_,rfl,by kernel_rfl⟩,trivial⟩)⟩
def zbo.b0 (N:Nat) (s13:List Int) (s55:List zR) (s56:Int) (s57:Int) (b2:zO) (b4:zH) (b5:yD) (b11:Storage) (b53:zI):Option (Stp ((List Int) × (List zR) × Int × Int × zO × zH × yD × Storage × zI)):=
 cond (decide (s57<s56)) ((idx s55 s57).bind fun x1001=>cond (Nat.ble ((s13.length+([(b53.code.length:Int)]:List Int).length)*8) zr)
  ((ze1 N b53 x1001).bind fun r1002=>
  some (.again ((s13++([(b53.code.length:Int)]:List Int)),s55,s56,(w6 (s57+1)),b2,b4,b5,b11,r1002))) none)
  (some (.leave (s13,s55,s56,s57,b2,b4,b5,b11,b53)))
def zbo.r0 (N:Nat) (x:(List Int) × (List zR) × Int × Int × zO × zH × yD × Storage × zI):=zbo.b0 N x.1 x.2.1 x.2.2.1 x.2.2.2.1 x.2.2.2.2.1 x.2.2.2.2.2.1 x.2.2.2.2.2.2.1 x.2.2.2.2.2.2.2.1 x.2.2.2.2.2.2.2.2
def zbo.b2 (N:Nat) (s13:List Int) (s88:Int) (s89:Int) (b2:zO) (b4:zH) (b5:yD) (b11:Storage) (b53:zI):Option (Stp ((List Int) × Int × Int × zO × zH × yD × Storage × zI)):=
 cond (decide (s89<s88)) (if 0≤s89 then(if s89<(b53.code.length:Int)then((b53.code[s89.toNat]?).bind fun x3001=>(zds x3001.Op).bind fun r3002=>
  cond r3002 (if 0≤x3001.Target then(if x3001.Target<(s13.length:Int)then((s13[x3001.Target.toNat]?).bind fun x3003=>
  if 0≤s89 then(if s89<(b53.code.length:Int)then((b53.code[s89.toNat]?).bind fun x3004=>
  some (.again (s13,s88,(w6 (s89+1)),b2,b4,b5,b11,(⟨b53.zO,b53.layout,(b53.code.set s89.toNat (⟨x3004.Op,x3004.R,x3004.A,x3004.B,x3004.zM,x3004.Place,x3004.From,x3004.zF,x3004.Second,x3004.Half,x3004.zP,x3004.Number,x3004.Text,x3004.Other,x3004.Mask,x3003,x3004.Pointer,x3004.Source⟩:zB))⟩:zI))))else none)else none)else none)else none)
  (some (.again (s13,s88,(w6 (s89+1)),b2,b4,b5,b11,b53))))else none)else none) (some (.leave (s13,s88,s89,b2,b4,b5,b11,b53)))
def zbo.r2 (N:Nat) (x:(List Int) × Int × Int × zO × zH × yD × Storage × zI):=zbo.b2 N x.1 x.2.1 x.2.2.1 x.2.2.2.1 x.2.2.2.2.1 x.2.2.2.2.2.1 x.2.2.2.2.2.2.1 x.2.2.2.2.2.2.2
def zbo (N:Nat) (a0:zO) (a1:zJ):Option (zH × yD × Int):=
 (zi3 N a0).bind fun r1=>(zen a1).bind fun r2=>(zfj N ([r1,r2]:List Int)).bind fun r3=>cond (r3 !=0)
  (some ((⟨(⟨(⟨#[]⟩:ByteArray),[]⟩:Storage),[],[]⟩:zH),(⟨[]⟩:yD),r3)) ((zno N a0).bind fun r4=>cond (r4.2.2 !=0)
  (some ((⟨(⟨(⟨#[]⟩:ByteArray),[]⟩:Storage),[],[]⟩:zH),(⟨[]⟩:yD),r4.2.2)) ((zcw N a0).bind fun r5=>cond (r5.2 !=0)
  (some ((⟨(⟨(⟨#[]⟩:ByteArray),[]⟩:Storage),[],[]⟩:zH),(⟨[]⟩:yD),r5.2))
  ((zh (zbo.r0 N) N ([],a0.zA,(a0.zA.length:Int),0,a0,(⟨(⟨(⟨#[]⟩:ByteArray),[]⟩:Storage),[],[]⟩:zH),(⟨[]⟩:yD),r5.1,(⟨a0,r4.1,[]⟩:zI))).bind fun y6=>
  cond (Nat.ble ((y6.1.length+([(y6.2.2.2.2.2.2.2.2.code.length:Int)]:List Int).length)*8) zr)
  ((zc y6.2.2.2.2.2.2.2.2 (⟨26,0,0,0,0,(⟨false,0,0⟩:zN),(⟨false,0,0⟩:zN),(⟨0,0,0⟩:DataType),(⟨0,0,0⟩:DataType),false,false,(⟨0,0⟩:Number),(⟨#[]⟩:ByteArray),(⟨#[]⟩:ByteArray),0,0,0,0⟩:zB)).bind fun r7=>
  (zh (zbo.r2 N) N ((y6.1++([(y6.2.2.2.2.2.2.2.2.code.length:Int)]:List Int)),(r7.code.length:Int),0,y6.2.2.2.2.1,y6.2.2.2.2.2.1,y6.2.2.2.2.2.2.1,y6.2.2.2.2.2.2.2.1,r7)).bind fun y8=>
  (zeo N y8.2.2.2.1.yI y8.1).bind fun r9=>some ((⟨y8.2.2.2.2.2.2.1,y8.2.2.2.2.2.2.2.code,r9⟩:zH),(⟨y8.1⟩:yD),0)) none)))
def zbo.k (N:Nat):Kq:=⟨26,(cvv [Ty.zH,Ty.yD,T6] [Ty.zO,Ty.zJ] (zbo N)),go [zfj.k N,zi3.k N,zen.k,zno.k N,zcw.k N,ze1.k N,zc.k,zds.k,zeo.k N] {pre:=[(26,[13])],lits:=[19,21,22,66,67,78,79]} [(0,.plain {slots:=[(2,.ptr 2 0),(4,.ptr 4 0),(5,.ptr 5 0),(11,.ptr 11 0),(12,.ptr 53 0),(13,.own 5000013 T6),(55,.val (Ty.sl Ty.zR)),(56,.val T6),(57,.val T6)],boxes:=[(2,Ty.zO,[]),(4,Ty.zH,[1,2,3]),(5,Ty.yD,[0]),(11,Ty.Storage,[]),(53,Ty.zI,[4])]} [(Ty.sl T6),(Ty.sl Ty.zR),T6,T6,Ty.zO,Ty.zH,Ty.yD,Ty.Storage,Ty.zI] (zh (zbo.r0 N) N)),(2,.plain {slots:=[(2,.ptr 2 0),(4,.ptr 4 0),(5,.ptr 5 0),(11,.ptr 11 0),(12,.ptr 53 0),(13,.own 5000013 T6),(87,.ofbox 12 53 4),(88,.val T6),(89,.val T6)],boxes:=[(2,Ty.zO,[]),(4,Ty.zH,[1,2,3]),(5,Ty.yD,[0]),(11,Ty.Storage,[]),(53,Ty.zI,[4])]} [(Ty.sl T6),T6,T6,Ty.zO,Ty.zH,Ty.yD,Ty.Storage,Ty.zI] (zh (zbo.r2 N) N))] Proofs.Tryz.func26 (hL:=⟨⟨_,_,rfl,by kernel_rfl⟩,⟨_,_,rfl,by kernel_rfl⟩,trivial⟩)⟩
def zn3 (N:Nat):Option Bool:=
 (zqj N).bind fun r1=>(zbz N (⟨2,false,false⟩:zJ) r1).bind fun r2=>(zqk).bind fun r3=>
  (zbo N r3 (⟨2,false,false⟩:zJ)).bind fun r4=>(cond (r2.2.2==0) (some ((r2.1.zA.length:Int)==3)) (some false)).bind fun g5=>
  (cond g5 ((idx r2.1.zA 1).bind fun x6=>
  some (zex [(x6.Op==3),(x6.R==1),(x6.A==0),(x6.B==0),(x6.zM==0),(x6.Place.Based==false),(x6.Place.Pointer==0),(x6.Place.Offset==0),(x6.From.Based==false),(x6.From.Pointer==0),(x6.From.Offset==0),(x6.zF.Kind==0),(x6.zF.Length==0),(x6.zF.Scale==0),(x6.Second.Kind==0),(x6.Second.Length==0),(x6.Second.Scale==0),(x6.Half==false),(x6.zP==false),(x6.Number.N==0),(x6.Number.Scale==0),(x6.Text==(⟨#[]⟩:ByteArray)),(x6.Other==(⟨#[]⟩:ByteArray)),(x6.Mask==0),(x6.Target==0),(x6.Pointer==0),(x6.Source==0)]))
  (some false)).bind fun g7=>(cond g7 (some (r4.2.2==0)) (some false)).bind fun g8=>(cond g8 (some ((r4.2.1.Starts.length:Int)==4)) (some false)).bind fun g9=>some g9
def zn3.k (N:Nat):Kq:=⟨5,(cvv [Ty.bool] [] (zn3 N)),go [zbz.k N,zqj.k N,zbo.k N,zqk.k] {lits:=[9,15]} [] Proofs.Tryz.func5⟩
def zh6 (a0:Storage):Option Bool:=
 (cond (decide ((a0.Bytes.size:Int)≤1072)) (some (decide ((a0.Tags.length:Int)≤67))) (some false)).bind fun g1=>some g1
def zh6.k:Kq:=⟨28,(cvv [Ty.bool] [Ty.Storage] zh6),go [] {} [] Proofs.Tryz.func28⟩
def zfd.b0 (N:Nat) (s3:Int) (b1:zH):Option (Round Bool (Int × zH)):=
 (cond (decide (s3<(b1.zA.length:Int))) (some (decide (s3<244))) (some false)).bind fun g1001=>cond g1001 ((idx b1.zA s3).bind fun x1002=>
  (cond (decide ((x1002.Text.size:Int)>300)) (some true) ((idx b1.zA s3).bind fun x1003=>some (decide ((x1003.Other.size:Int)>300)))).bind fun g1004=>
  cond g1004 (some (.result false)) (some (.again ((w6 (s3+1)),b1)))) (some (.leave (s3,b1)))
def zfd.r0 (N:Nat) (x:Int × zH):=zfd.b0 N x.1 x.2
def zfd (N:Nat) (a0:zH):Option Bool:=
 (zo (zfd.r0 N) N (0,a0)).bind fun z2=>zbu z2 (fun z=>some z) (fun y1=>(zh6 y1.2.Storage).bind fun r3=>
  (cond r3 (some (decide ((y1.2.zA.length:Int)<244))) (some false)).bind fun g4=>(cond g4 (some (decide ((y1.2.zS.length:Int)<44)))
  (some false)).bind fun g5=>some g5)
def zfd.k (N:Nat):Kq:=⟨6,(cvv [Ty.bool] [Ty.zH] (zfd N)),go [zh6.k] {} [(0,.rets {slots:=[(1,.ptr 1 0),(3,.val T6)],boxes:=[(1,Ty.zH,[])]} [T6,Ty.zH] (zo (zfd.r0 N) N))] Proofs.Tryz.func6 (hL:=⟨⟨_,_,rfl,by kernel_rfl⟩,trivial⟩)⟩
def zg (a0:Int) (a1:Int) (a2:Int):Option Bool:=
 (cond (decide (a1≤a0)) (some (decide (a0≤a2))) (some false)).bind fun g1=>some g1
def zg.k:Kq:=⟨11,(cvv [Ty.bool] [T6,T6,T6] zg),go [] {} [] Proofs.Tryz.func11⟩
def zjm (a0:zJ):Option Int:=
 (zg a0.Registers 2 8).bind fun r1=>cond (!r1) (some 3) (some 0)
def zjm.k:Kq:=⟨70,(cvv [T6] [Ty.zJ] zjm),go [zg.k] {} [] Proofs.Tryz.func70⟩
def zi5 (a0:Storage) (a1:Int):Option ByteArray:=
 if 0≤(w6 ((w6 (a1*16))+16))∧(w6 ((w6 (a1*16))+16))≤(a0.Bytes.size:Int)then(if 0≤(w6 (a1*16))∧(w6 (a1*16))≤(w6 ((w6 (a1*16))+16))then(some (a0.Bytes.extract (w6 (a1*16)).toNat (w6 ((w6 (a1*16))+16)).toNat))else none)else none
def zi5.k:Kq:=⟨197,(cvv [Ty.str] [Ty.Storage,T6] zi5),go [] {} [] Proofs.Tryz.func197⟩
def zbt.b0 (N:Nat) (s0:ByteArray) (s1:Int) (s2:Int) (s7:Int) (s8:Int):Option (Stp (ByteArray × Int × Int × Int × Int)):=
 cond (decide (s8<s2)) ((zil s0 (w6 (s1+s8))).bind fun x1001=>
  some (.again (s0,s1,s2,(w6 ((w6 (s7*256))+(w6 (x1001.toNat:Int)))),(w6 (s8+1)))))
  (some (.leave (s0,s1,s2,s7,s8)))
def zbt.r0 (N:Nat) (x:ByteArray × Int × Int × Int × Int):=zbt.b0 N x.1 x.2.1 x.2.2.1 x.2.2.2.1 x.2.2.2.2
def zbt (N:Nat) (a0:ByteArray) (a1:Int) (a2:Int):Option Int:=
 (zh (zbt.r0 N) N (a0,a1,a2,0,0)).bind fun y1=>some y1.2.2.2.1
def zbt.k (N:Nat):Kq:=⟨37,(cvv [T6] [Ty.str,T6,T6] (zbt N)),go [] {} [(0,.plain {slots:=[(0,.val Ty.str),(1,.val T6),(2,.val T6),(7,.val T6),(8,.val T6)],boxes:=[]} [Ty.str,T6,T6,T6,T6] (zh (zbt.r0 N) N))] Proofs.Tryz.func37 (hL:=⟨⟨_,_,rfl,by kernel_rfl⟩,trivial⟩)⟩
def zfw (a0:Pointer):Option Int:=
 (zg a0.Kind 0 2).bind fun r1=>cond (!r1) (some 4) ((zg a0.Address.yF 0 1099511627775).bind fun r2=>(cond (!r2) (some true)
  ((zg a0.Address.Offset 0 16777215).bind fun r3=>some (!r3))).bind fun g4=>(cond g4 (some true) ((zg a0.Authority 0 1023).bind fun r5=>
  some (!r5))).bind fun g6=>cond g6 (some 3) ((cond (a0.Kind !=1) (some (a0.Authority !=0)) (some false)).bind fun g7=>cond g7 (some 5) (some 0)))
def zfw.k:Kq:=⟨274,(cvv [T6] [Ty.Pointer] zfw),go [zg.k] {} [] Proofs.Tryz.func274⟩
def zkv (N:Nat) (a0:ByteArray):Option (Pointer × Int):=
 cond ((a0.size:Int) !=16) (some ((⟨0,(⟨0,0⟩:Address),0⟩:Pointer),18)) ((zil a0 1).bind fun x1=>cond ((x1.toNat:Int) !=0)
  (some ((⟨0,(⟨0,0⟩:Address),0⟩:Pointer),5)) ((zil a0 0).bind fun x2=>(zbt N a0 2 2).bind fun r3=>(zbt N a0 4 6).bind fun r4=>
  (zbt N a0 10 6).bind fun r5=>(zfw (⟨(w6 (x2.toNat:Int)),(⟨r4,r5⟩:Address),r3⟩:Pointer)).bind fun r6=>cond (r6 !=0)
  (some ((⟨0,(⟨0,0⟩:Address),0⟩:Pointer),r6)) (some ((⟨(w6 (x2.toNat:Int)),(⟨r4,r5⟩:Address),r3⟩:Pointer),0))))
def zkv.k (N:Nat):Kq:=⟨196,(cvv [Ty.Pointer,T6] [Ty.str] (zkv N)),go [zbt.k N,zfw.k] {} [] Proofs.Tryz.func196⟩
def zb0.b0 (N:Nat) (s4:Int) (s5:Int) (b1:Storage):Option (Round (Int × Int) (Int × Int × Storage)):=
 cond (decide (s5<s4)) ((idx b1.Tags s5).bind fun x1001=>cond x1001 ((zi5 b1 s5).bind fun r1002=>(zkv N r1002).bind fun r1003=>cond (r1003.2 !=0)
  (some (.result (s5,22))) (some (.again (s4,(w6 (s5+1)),b1)))) (some (.again (s4,(w6 (s5+1)),b1)))) (some (.leave (s4,s5,b1)))
def zb0.r0 (N:Nat) (x:Int × Int × Storage):=zb0.b0 N x.1 x.2.1 x.2.2
def zb0 (N:Nat) (a0:Storage):Option (Int × Int):=
 cond (decide ((a0.Bytes.size:Int)>1024)) (some (0,2)) (cond (((a0.Bytes.size:Int).tmod 16) !=0) (some (0,18))
  (cond ((a0.Tags.length:Int) !=(w6 ((a0.Bytes.size:Int).tdiv 16))) (some (0,6))
  ((zo (zb0.r0 N) N ((w6 ((a0.Bytes.size:Int).tdiv 16)),0,a0)).bind fun z2=>zbu z2 (fun z=>some z) (fun y1=>some (y1.1,0)))))
def zb0.k (N:Nat):Kq:=⟨120,(cvv [T6,T6] [Ty.Storage] (zb0 N)),go [zkv.k N,zi5.k] {lits:=[39]} [(0,.rets {slots:=[(1,.ptr 1 0),(4,.val T6),(5,.val T6)],boxes:=[(1,Ty.Storage,[])]} [T6,T6,Ty.Storage] (zo (zb0.r0 N) N))] Proofs.Tryz.func120 (hL:=⟨⟨_,_,rfl,by kernel_rfl⟩,trivial⟩)⟩
def zm4 (N:Nat) (a0:Storage):Option Int:=
 (zb0 N a0).bind fun r1=>some r1.2
def zm4.k (N:Nat):Kq:=⟨71,(cvv [T6] [Ty.Storage] (zm4 N)),go [zb0.k N] {} [] Proofs.Tryz.func71⟩
def zci.b0 (N:Nat) (s3:List Int) (s4:Int) (b1:Storage):Option (Stp ((List Int) × Int × Storage)):=
 cond (decide (s4<(b1.Tags.length:Int))) ((idx b1.Tags s4).bind fun x1001=>
  cond x1001 (cond (Nat.ble ((s3.length+([(w6 (s4*16))]:List Int).length)*8) zr)
  (some (.again ((s3++([(w6 (s4*16))]:List Int)),(w6 (s4+1)),b1))) none) (some (.again (s3,(w6 (s4+1)),b1))))
  (some (.leave (s3,s4,b1)))
def zci.r0 (N:Nat) (x:(List Int) × Int × Storage):=zci.b0 N x.1 x.2.1 x.2.2
def zci (N:Nat) (a0:Storage):Option ((List Int)):=
 (zh (zci.r0 N) N ([],0,a0)).bind fun y1=>some y1.1
def zci.k (N:Nat):Kq:=⟨72,(cvv [(Ty.sl T6)] [Ty.Storage] (zci N)),go [] {lits:=[20]} [(0,.plain {slots:=[(1,.ptr 1 0),(3,.own 5000003 T6),(4,.val T6)],boxes:=[(1,Ty.Storage,[])]} [(Ty.sl T6),T6,Ty.Storage] (zh (zci.r0 N) N))] Proofs.Tryz.func72 (hL:=⟨⟨_,_,rfl,by kernel_rfl⟩,trivial⟩)⟩
def ze3 (a0:zB):Option zQ:=
 cond (a0.Op==0) (some (⟨true,false,false,true,false,false,false,false,false,false,false,false,false,false,1,0⟩:zQ)) (cond (a0.Op==1)
  (some (⟨true,false,false,true,false,true,false,false,false,false,false,false,false,false,1,0⟩:zQ)) (cond (a0.Op==2)
  (some (⟨true,false,false,false,false,false,true,false,false,false,false,false,false,false,0,0⟩:zQ)) (cond (a0.Op==3)
  (some (⟨true,true,false,false,false,false,false,false,false,false,false,false,false,false,0,0⟩:zQ)) (cond (a0.Op==4)
  (cond a0.zP (some (⟨true,true,false,true,false,false,false,true,false,false,false,false,false,false,1,1⟩:zQ))
  (some (⟨true,true,true,false,false,false,false,true,false,false,false,false,false,false,1,0⟩:zQ))) (cond (a0.Op==5)
  (some (⟨false,true,true,false,false,false,false,false,false,false,false,false,false,false,0,0⟩:zQ)) (cond (a0.Op==6)
  (some (⟨false,false,false,false,false,false,false,false,true,true,false,false,false,false,0,0⟩:zQ)) (cond (a0.Op==7)
  (some (⟨false,true,true,false,false,false,false,false,true,true,false,false,false,false,0,0⟩:zQ)) ((cond (a0.Op==8) (some (a0.Op==8))
  (some (a0.Op==18))).bind fun q1=>cond q1 (some (⟨false,false,false,false,false,false,false,false,false,true,false,false,false,false,0,0⟩:zQ))
  ((cond (a0.Op==9) (some (a0.Op==9)) (some (a0.Op==11))).bind fun q2=>
  cond q2 (some (⟨false,false,false,true,true,false,false,false,false,false,false,false,false,false,2,2⟩:zQ)) ((cond (a0.Op==10) (some (a0.Op==10))
  (some (a0.Op==12))).bind fun q3=>cond q3 (some (⟨false,false,false,true,false,false,false,false,false,false,true,false,false,false,2,0⟩:zQ))
  (cond (a0.Op==13) (some (⟨false,false,false,false,false,false,false,false,false,false,true,true,false,false,0,0⟩:zQ)) (cond (a0.Op==14)
  (some (⟨false,false,false,true,false,false,false,false,false,false,false,false,true,false,3,0⟩:zQ)) (cond (a0.Op==15)
  (some (⟨false,false,false,false,false,false,false,false,false,false,false,false,true,true,0,0⟩:zQ)) (cond (a0.Op==16)
  (some (⟨true,false,false,false,false,false,false,false,false,false,false,false,true,false,0,0⟩:zQ)) (cond (a0.Op==17)
  (some (⟨false,false,false,false,false,false,false,false,false,false,false,false,true,false,0,0⟩:zQ)) ((cond (a0.Op==20) (some (a0.Op==20))
  (cond (a0.Op==21) (some (a0.Op==21)) (some (a0.Op==22)))).bind fun q4=>
  cond q4 (some (⟨true,false,false,false,false,false,false,false,false,false,false,false,false,false,0,0⟩:zQ)) (cond (a0.Op==23)
  (some (⟨false,false,false,true,false,false,false,false,false,false,false,false,false,false,2,0⟩:zQ)) (cond (a0.Op==24)
  (some (⟨false,false,false,false,false,false,false,false,false,false,true,false,false,false,0,0⟩:zQ))
  (some (⟨false,false,false,false,false,false,false,false,false,false,false,false,false,false,0,0⟩:zQ))))))))))))))))))))
def ze3.k:Kq:=⟨121,(cvv [Ty.zQ] [Ty.zB] ze3),go [] {bj:=[32,36,40,59]} [] Proofs.Tryz.func121⟩
def zjl (a0:zB) (a1:zQ):Option Bool:=
 (cond (!a1.R) (some (a0.R !=0)) (some false)).bind fun g1=>(cond g1 (some true) ((cond (!a1.A) (some (a0.A !=0)) (some false)).bind fun g2=>some g2)).bind fun g3=>
  (cond g3 (some true) ((cond (!a1.B) (some (a0.B !=0)) (some false)).bind fun g4=>some g4)).bind fun g5=>(cond g5 (some true) ((cond (!a1.zM)
  (some (a0.zM !=0)) (some false)).bind fun g6=>some g6)).bind fun g7=>(cond g7 (some true) ((cond (!a1.Place)
  (some (!(zex [(a0.Place.Based==false),(a0.Place.Pointer==0),(a0.Place.Offset==0)]))) (some false)).bind fun g8=>some g8)).bind fun g9=>(cond g9 (some true)
  ((cond (!a1.From) (some (!(zex [(a0.From.Based==false),(a0.From.Pointer==0),(a0.From.Offset==0)]))) (some false)).bind fun g10=>some g10)).bind fun g11=>
  (cond g11 (some true) ((cond (a1.zF==0) (some (!(zex [(a0.zF.Kind==0),(a0.zF.Length==0),(a0.zF.Scale==0)]))) (some false)).bind fun g12=>
  some g12)).bind fun g13=>(cond g13 (some true) ((cond (a1.Second==0) (some (!(zex [(a0.Second.Kind==0),(a0.Second.Length==0),(a0.Second.Scale==0)])))
  (some false)).bind fun g14=>some g14)).bind fun g15=>(cond g15 (some true) ((cond (!a1.Half) (some a0.Half) (some false)).bind fun g16=>some g16)).bind fun g17=>
  (cond g17 (some true) ((cond (a0.Op !=4) (some a0.zP) (some false)).bind fun g18=>some g18)).bind fun g19=>(cond g19 (some true) ((cond (!a1.Number)
  (some (!(zex [(a0.Number.N==0),(a0.Number.Scale==0)]))) (some false)).bind fun g20=>some g20)).bind fun g21=>(cond g21 (some true) ((cond (!a1.Text)
  (some (!(a0.Text.toList==(⟨#[]⟩:ByteArray).toList))) (some false)).bind fun g22=>some g22)).bind fun g23=>(cond g23 (some true) ((cond (!a1.Other)
  (some (!(a0.Other.toList==(⟨#[]⟩:ByteArray).toList))) (some false)).bind fun g24=>some g24)).bind fun g25=>(cond g25 (some true) ((cond (!a1.Mask) (some (a0.Mask !=0))
  (some false)).bind fun g26=>some g26)).bind fun g27=>(cond g27 (some true) ((cond (!a1.Target) (some (a0.Target !=0)) (some false)).bind fun g28=>some g28)).bind fun g29=>
  (cond g29 (some true) ((cond (!a1.Pointer) (some (a0.Pointer !=0)) (some false)).bind fun g30=>some g30)).bind fun g31=>(cond g31 (some true) ((cond (!a1.Source)
  (some (a0.Source !=0)) (some false)).bind fun g32=>some g32)).bind fun g33=>(cond g33 (some true) ((cond (!a0.Place.Based) (some (a0.Place.Pointer !=0))
  (some false)).bind fun g34=>some g34)).bind fun g35=>(cond g35 (some true) ((cond (!a0.From.Based) (some (a0.From.Pointer !=0)) (some false)).bind fun g36=>
  some g36)).bind fun g37=>some g37
def zjl.k:Kq:=⟨122,(cvv [Ty.bool] [Ty.zB,Ty.zQ] zjl),go [] {} [] Proofs.Tryz.func122⟩
def zme (a0:zJ) (a1:zB):Option Bool:=
 (cond (a1.Op==7) (some (!a0.yK)) (some false)).bind fun g1=>(cond g1 (some true) ((cond a1.zP (some (!a0.yH)) (some false)).bind fun g2=>
  some g2)).bind fun g3=>some g3
def zme.k:Kq:=⟨123,(cvv [Ty.bool] [Ty.zJ,Ty.zB] zme),go [] {} [] Proofs.Tryz.func123⟩
def zb4 (a0:Int):Option Bool:=
 (zg a0 1 3).bind fun r1=>some r1
def zb4.k:Kq:=⟨13,(cvv [Ty.bool] [T6] zb4),go [zg.k] {} [] Proofs.Tryz.func13⟩
def zbb (a0:Bool):Option Int:=
 cond a0 (some 1) (some 0)
def zbb.k:Kq:=⟨35,(cvv [T6] [Ty.bool] zbb),go [] {} [] Proofs.Tryz.func35⟩
def zeq (a0:DataType):Option Int:=
 (zg a0.Kind 0 4).bind fun r1=>cond (!r1) (some 4) (cond (a0.Kind==0) ((zg a0.Length 1 256).bind fun r2=>cond (!r2) (some 18)
  ((zb4 a0.Kind).bind fun r3=>cond r3 ((zg a0.Scale 0 a0.Length).bind fun r4=>(zbb (!r4)).bind fun r5=>some (w6 (3*r5)))
  ((zg a0.Scale 0 0).bind fun r6=>(zbb (!r6)).bind fun r7=>some (w6 (3*r7))))) ((cond (a0.Kind==1) (some (a0.Kind==1))
  (some (a0.Kind==2))).bind fun q8=>cond q8 ((zg a0.Length 1 15).bind fun r9=>cond (!r9) (some 18) ((zb4 a0.Kind).bind fun r10=>
  cond r10 ((zg a0.Scale 0 a0.Length).bind fun r11=>(zbb (!r11)).bind fun r12=>some (w6 (3*r12))) ((zg a0.Scale 0 0).bind fun r13=>
  (zbb (!r13)).bind fun r14=>some (w6 (3*r14))))) (cond (a0.Kind==3) ((cond (a0.Length==4) (some true) (some (a0.Length==9))).bind fun g15=>
  cond (!g15) (some 18) ((zb4 a0.Kind).bind fun r16=>cond r16 ((zg a0.Scale 0 a0.Length).bind fun r17=>(zbb (!r17)).bind fun r18=>
  some (w6 (3*r18))) ((zg a0.Scale 0 0).bind fun r19=>(zbb (!r19)).bind fun r20=>some (w6 (3*r20))))) (cond (!(a0.Length==0))
  (some 18) ((zb4 a0.Kind).bind fun r21=>cond r21 ((zg a0.Scale 0 a0.Length).bind fun r22=>(zbb (!r22)).bind fun r23=>
  some (w6 (3*r23))) ((zg a0.Scale 0 0).bind fun r24=>(zbb (!r24)).bind fun r25=>some (w6 (3*r25))))))))
def zeq.k:Kq:=⟨12,(cvv [T6] [Ty.DataType] zeq),go [zg.k,zb4.k,zbb.k] {bj:=[19]} [] Proofs.Tryz.func12⟩
def ziw (a0:DataType) (a1:Int):Option Int:=
 cond (a1==0) (some 0) ((zeq a0).bind fun r1=>cond (r1 !=0) (some r1) ((cond (a1==1) ((zb4 a0.Kind).bind fun r2=>some (!r2))
  (some false)).bind fun g3=>(cond g3 (some true) ((cond (a1==2) (some (a0.Kind !=0)) (some false)).bind fun g4=>some g4)).bind fun g5=>(cond g5 (some true)
  ((cond (a1==3) (some (a0.Kind==4)) (some false)).bind fun g6=>some g6)).bind fun g7=>cond g7 (some 17) (some 0)))
def ziw.k:Kq:=⟨124,(cvv [T6] [Ty.DataType,T6] ziw),go [zeq.k,zb4.k] {} [] Proofs.Tryz.func124⟩
def zfu (a0:zJ) (a1:Int):Option Bool:=
 (zg a1 0 (w6 (a0.Registers-1))).bind fun r1=>some r1
def zfu.k:Kq:=⟨198,(cvv [Ty.bool] [Ty.zJ,T6] zfu),go [zg.k] {} [] Proofs.Tryz.func198⟩
def zfv (a0:zJ) (a1:zB):Option Bool:=
 (ze3 a1).bind fun r1=>(cond (!r1.R) (some true) ((zfu a0 a1.R).bind fun r2=>some r2)).bind fun g3=>(cond g3 ((cond (!r1.A) (some true)
  ((zfu a0 a1.A).bind fun r4=>some r4)).bind fun g5=>some g5) (some false)).bind fun g6=>(cond g6 ((cond (!r1.B) (some true)
  ((zfu a0 a1.B).bind fun r7=>some r7)).bind fun g8=>some g8) (some false)).bind fun g9=>some g9
def zfv.k:Kq:=⟨125,(cvv [Ty.bool] [Ty.zJ,Ty.zB] zfv),go [ze3.k,zfu.k] {} [] Proofs.Tryz.func125⟩
def zer (a0:Storage) (a1:Int):Option Bool:=
 (zg a1 0 (w6 ((a0.Bytes.size:Int)-16))).bind fun r1=>(cond r1 (some ((a1.tmod 16)==0)) (some false)).bind fun g2=>some g2
def zer.k:Kq:=⟨126,(cvv [Ty.bool] [Ty.Storage,T6] zer),go [zg.k] {} [] Proofs.Tryz.func126⟩
def zaw (a0:DataType):Option Int:=
 cond (a0.Kind==1) (some (w6 ((w6 (a0.Length.tdiv 2))+1))) (cond (a0.Kind==3) ((zbb (a0.Length==9)).bind fun r1=>
  some (w6 (2+(w6 (2*r1))))) (cond (a0.Kind==4) (some 16) (some a0.Length)))
def zaw.k:Kq:=⟨15,(cvv [T6] [Ty.DataType] zaw),go [zbb.k] {} [] Proofs.Tryz.func15⟩
def zhq (a0:Storage) (a1:Int) (a2:Int):Option Bool:=
 (zg a1 0 (a0.Bytes.size:Int)).bind fun r1=>(cond r1 ((zg a2 0 (w6 ((a0.Bytes.size:Int)-a1))).bind fun r2=>some r2)
  (some false)).bind fun g3=>some g3
def zhq.k:Kq:=⟨199,(cvv [Ty.bool] [Ty.Storage,T6,T6] zhq),go [zg.k] {lits:=[10]} [] Proofs.Tryz.func199⟩
def ze8 (a0:zH) (a1:zN) (a2:Int):Option Bool:=
 cond a1.Based ((zer a0.Storage a1.Pointer).bind fun r1=>(cond r1 ((zg a1.Offset 0 256).bind fun r2=>some r2) (some false)).bind fun g3=>some g3)
  ((zhq a0.Storage a1.Offset a2).bind fun r4=>some r4)
def ze8.k:Kq:=⟨127,(cvv [Ty.bool] [Ty.zH,Ty.zN,T6] ze8),go [zg.k,zer.k,zhq.k] {} [] Proofs.Tryz.func127⟩
def zcp (a0:Number):Option Int:=
 (zg a0.N (-999999999999999) 999999999999999).bind fun r1=>(cond r1 ((zg a0.Scale 0 15).bind fun r2=>some r2) (some false)).bind fun g3=>
  (zbb (!g3)).bind fun r4=>some (w6 (3*r4))
def zcp.k:Kq:=⟨128,(cvv [T6] [Ty.Number] zcp),go [zg.k,zbb.k] {} [] Proofs.Tryz.func128⟩
def zed (a0:zJ) (a1:zH) (a2:zB):Option Int:=
 (zg a2.Op 0 26).bind fun r1=>cond (!r1) (some 4) ((ze3 a2).bind fun r2=>(zjl a2 r2).bind fun r3=>cond r3 (some 5)
  ((zme a0 a2).bind fun r4=>cond r4 (some 39) ((ziw a2.zF r2.zF).bind fun r5=>cond (r5 !=0) (some r5)
  ((ziw a2.Second r2.Second).bind fun r6=>cond (r6 !=0) (some r6) (cond (a2.Op==4) (((zfv a0 a2).bind fun r7=>cond (!r7) (some (!r7))
  ((cond r2.Target ((zg a2.Target 0 (w6 ((a1.zA.length:Int)-1))).bind fun r8=>some (!r8)) (some false)).bind fun g9=>cond g9 (some g9)
  ((cond r2.Mask ((zg a2.Mask 1 7).bind fun r10=>some (!r10)) (some false)).bind fun g11=>some g11))).bind fun q12=>cond q12 (some 3)
  (((cond r2.Pointer ((zer a1.Storage a2.Pointer).bind fun r13=>some (!r13)) (some false)).bind fun g14=>cond g14 (some g14)
  ((cond r2.Source ((zer a1.Storage a2.Source).bind fun r15=>some (!r15)) (some false)).bind fun g16=>some g16)).bind fun q17=>cond q17 (some 3)
  ((cond r2.Place ((zaw a2.Second).bind fun r18=>(ze8 a1 a2.Place r18).bind fun r19=>some (!r19)) (some false)).bind fun g20=>cond g20 (cond g20 (some 3)
  ((cond r2.zM ((zg a2.zM 0 4).bind fun r21=>some (!r21)) (some false)).bind fun g22=>cond g22 (some 3) ((zcp a2.Number).bind fun r23=>
  (cond r2.Number (some (r23 !=0)) (some false)).bind fun g24=>cond g24 (some r23) ((cond (decide ((a2.Text.size:Int)>256)) (some true)
  (some (decide ((a2.Other.size:Int)>256)))).bind fun g25=>cond g25 (some 2) (some 0))))) ((cond r2.From ((zaw a2.Second).bind fun r26=>
  (ze8 a1 a2.From r26).bind fun r27=>some (!r27)) (some false)).bind fun g28=>cond g28 (some 3) ((cond r2.zM ((zg a2.zM 0 4).bind fun r29=>
  some (!r29)) (some false)).bind fun g30=>cond g30 (some 3) ((zcp a2.Number).bind fun r31=>(cond r2.Number (some (r31 !=0)) (some false)).bind fun g32=>
  cond g32 (some r31) ((cond (decide ((a2.Text.size:Int)>256)) (some true) (some (decide ((a2.Other.size:Int)>256)))).bind fun g33=>cond g33 (some 2) (some 0))))))))
  (((zfv a0 a2).bind fun r34=>cond (!r34) (some (!r34))
  ((cond r2.Target ((zg a2.Target 0 (w6 ((a1.zA.length:Int)-1))).bind fun r35=>some (!r35)) (some false)).bind fun g36=>cond g36 (some g36)
  ((cond r2.Mask ((zg a2.Mask 1 7).bind fun r37=>some (!r37)) (some false)).bind fun g38=>some g38))).bind fun q39=>cond q39 (some 3)
  (((cond r2.Pointer ((zer a1.Storage a2.Pointer).bind fun r40=>some (!r40)) (some false)).bind fun g41=>cond g41 (some g41)
  ((cond r2.Source ((zer a1.Storage a2.Source).bind fun r42=>some (!r42)) (some false)).bind fun g43=>some g43)).bind fun q44=>cond q44 (some 3)
  ((cond r2.Place ((zaw a2.zF).bind fun r45=>(ze8 a1 a2.Place r45).bind fun r46=>some (!r46)) (some false)).bind fun g47=>cond g47 (cond g47 (some 3)
  ((cond r2.zM ((zg a2.zM 0 4).bind fun r48=>some (!r48)) (some false)).bind fun g49=>cond g49 (some 3) ((zcp a2.Number).bind fun r50=>
  (cond r2.Number (some (r50 !=0)) (some false)).bind fun g51=>cond g51 (some r50) ((cond (decide ((a2.Text.size:Int)>256)) (some true)
  (some (decide ((a2.Other.size:Int)>256)))).bind fun g52=>cond g52 (some 2) (some 0))))) ((cond r2.From ((zaw a2.Second).bind fun r53=>
  (ze8 a1 a2.From r53).bind fun r54=>some (!r54)) (some false)).bind fun g55=>cond g55 (some 3) ((cond r2.zM ((zg a2.zM 0 4).bind fun r56=>
  some (!r56)) (some false)).bind fun g57=>cond g57 (some 3) ((zcp a2.Number).bind fun r58=>(cond r2.Number (some (r58 !=0)) (some false)).bind fun g59=>
  cond g59 (some r58) ((cond (decide ((a2.Text.size:Int)>256)) (some true) (some (decide ((a2.Other.size:Int)>256)))).bind fun g60=>cond g60 (some 2) (some 0)))))))))))))
def zed.k:Kq:=⟨73,(cvv [T6] [Ty.zJ,Ty.zH,Ty.zB] zed),go [zg.k,zaw.k,ze3.k,zjl.k,zme.k,ziw.k,zfv.k,zer.k,ze8.k,zcp.k] {lits:=[101,113],bj:=[47,72]} [] Proofs.Tryz.func73⟩
def zac.b1 (N:Nat) (s8:Int) (b2:zJ) (b3:zH):Option (Round (Int × Int) (Int × zJ × zH)):=
 cond (decide (s8<(b3.zA.length:Int))) ((idx b3.zA s8).bind fun x2001=>(zed b2 b3 x2001).bind fun r2002=>cond (r2002 !=0)
  (some (.result (s8,r2002))) (some (.again ((w6 (s8+1)),b2,b3)))) (some (.leave (s8,b2,b3)))
def zac.r1 (N:Nat) (x:Int × zJ × zH):=zac.b1 N x.1 x.2.1 x.2.2
def zac.b3 (N:Nat) (s10:Int) (b3:zH):Option (Round (Int × Int) (Int × zH)):=
 cond (decide (s10<(b3.zS.length:Int))) ((idx b3.zS s10).bind fun x4001=>(cond (decide (x4001.From<0)) (some true)
  (some (decide (x4001.From>x4001.To)))).bind fun g4002=>(cond g4002 (some true) (some (decide (x4001.To>(b3.zA.length:Int))))).bind fun g4003=>
  (cond g4003 (some true) ((zg x4001.Exception 0 999).bind fun r4004=>some (!r4004))).bind fun g4005=>(cond g4005 (some true)
  ((zg x4001.Handler 0 (w6 ((b3.zA.length:Int)-1))).bind fun r4006=>some (!r4006))).bind fun g4007=>cond g4007 (some (.result (s10,3)))
  (some (.again ((w6 (s10+1)),b3)))) (some (.leave (s10,b3)))
def zac.r3 (N:Nat) (x:Int × zH):=zac.b3 N x.1 x.2
def zac (N:Nat) (a0:zJ) (a1:zH):Option (Int × Int):=
 (zjm a0).bind fun r1=>cond (r1 !=0) (some (0,r1)) ((zm4 N a1.Storage).bind fun r2=>cond (r2 !=0) (some (0,r2))
  ((zci N a1.Storage).bind fun r3=>cond (decide ((r3.length:Int)>0)) (some (0,22)) (cond ((a1.zA.length:Int)==0) (some (0,1))
  ((cond (decide ((a1.zA.length:Int)>240)) (some true) (some (decide ((a1.zS.length:Int)>40)))).bind fun g4=>cond g4 (some (0,2))
  ((zo (zac.r1 N) N (0,a0,a1)).bind fun z6=>zbu z6 (fun z=>some z) (fun y5=>(zo (zac.r3 N) N (0,y5.2.2)).bind fun z8=>zbu z8 (fun z=>
  some z) (fun y7=>some ((y7.2.zA.length:Int),0))))))))
def zac.k (N:Nat):Kq:=⟨29,(cvv [T6,T6] [Ty.zJ,Ty.zH] (zac N)),go [zg.k,zjm.k,zm4.k N,zci.k N,zed.k] {lits:=[26]} [(1,.rets {slots:=[(2,.ptr 2 0),(3,.ptr 3 0),(8,.val T6)],boxes:=[(2,Ty.zJ,[]),(3,Ty.zH,[])]} [T6,Ty.zJ,Ty.zH] (zo (zac.r1 N) N)),(3,.rets {slots:=[(3,.ptr 3 0),(10,.val T6)],boxes:=[(3,Ty.zH,[])]} [T6,Ty.zH] (zo (zac.r3 N) N))] Proofs.Tryz.func29 (hL:=⟨⟨_,_,rfl,by kernel_rfl⟩,⟨_,_,rfl,by kernel_rfl⟩,trivial⟩)⟩
def zl8 (N:Nat) (a0:zJ) (a1:zH):Option Int:=
 (zac N a0 a1).bind fun r1=>some r1.2
def zl8.k (N:Nat):Kq:=⟨7,(cvv [T6] [Ty.zJ,Ty.zH] (zl8 N)),go [zac.k N] {} [] Proofs.Tryz.func7⟩
def zjs (a0:List Bool):Option ((List Bool)):=
 cond (Nat.ble (a0.length*1) zr) (some a0) none
def zjs.k:Kq:=⟨81,(ctv [.val (Ty.sl Ty.bool)] [(Ty.sl Ty.bool)] [] [0] [(Ty.sl Ty.bool)] zjs),go [] {} [] Proofs.Tryz.func81⟩
def zc6 (a0:Storage):Option Storage:=
 (zjs a0.Tags).bind fun r1=>some (⟨a0.Bytes,r1⟩:Storage)
def zc6.k:Kq:=⟨34,(ctv [.val Ty.Storage] [Ty.Storage] [] [1] [Ty.Storage] zc6),go [zjs.k] {} [] Proofs.Tryz.func34⟩
def zkg (a0:zH):Option zH:=
 (zc6 a0.Storage).bind fun r1=>cond (Nat.ble (a0.zA.length*224) zr) (cond (Nat.ble (a0.zS.length*32) zr)
  (some (⟨r1,a0.zA,a0.zS⟩:zH)) none) none
def zkg.k:Kq:=⟨9,(cvv [Ty.zH] [Ty.zH] zkg),go [zc6.k] {} [] Proofs.Tryz.func9⟩
def zmf (a0:zJ) (a1:zH):Option zC:=
 if 0≤a0.Registers then(if a0.Registers≤a0.Registers then(cond (Nat.ble (a0.Registers.toNat*16) zr) ((zc6 a1.Storage).bind fun r1=>
  some (⟨(List.replicate a0.Registers.toNat ((⟨0,0⟩:Number):Number)),0,r1,0,[],[],0,0,0,0⟩:zC)) none)else none)else none
def zmf.k:Kq:=⟨10,(cvv [Ty.zC] [Ty.zJ,Ty.zH] zmf),go [zc6.k] {} [] Proofs.Tryz.func10⟩
def zd1.b0 (N:Nat) (s0:Int) (s3:Int) (s4:Int):Option (Stp (Int × Int × Int)):=
 cond (decide (s4<s0)) (some (.again (s0,(w6 (s3*10)),(w6 (s4+1))))) (some (.leave (s0,s3,s4)))
def zd1.r0 (N:Nat) (x:Int × Int × Int):=zd1.b0 N x.1 x.2.1 x.2.2
def zd1 (N:Nat) (a0:Int):Option Int:=
 (zh (zd1.r0 N) N (a0,1,0)).bind fun y1=>some y1.2.1
def zd1.k (N:Nat):Kq:=⟨36,(cvv [T6] [T6] (zd1 N)),go [] {} [(0,.plain {slots:=[(0,.val T6),(3,.val T6),(4,.val T6)],boxes:=[]} [T6,T6,T6] (zh (zd1.r0 N) N))] Proofs.Tryz.func36 (hL:=⟨⟨_,_,rfl,by kernel_rfl⟩,trivial⟩)⟩
def zf9 (N:Nat) (a0:DataType):Option Int:=
 (zd1 N a0.Length).bind fun r1=>some (w6 (r1-1))
def zf9.k (N:Nat):Kq:=⟨14,(cvv [T6] [Ty.DataType] (zf9 N)),go [zd1.k N] {} [] Proofs.Tryz.func14⟩
def zfx (a0:Int) (a1:Int):Option (Int × Bool):=
 (cond (a1==11) (some true) (some (a1==13))).bind fun g1=>cond g1 (some ((w6 (0-a0)),(decide (a1≥10)))) (some (a0,(decide (a1≥10))))
def zfx.k:Kq:=⟨82,(cvv [T6,Ty.bool] [T6,T6] zfx),go [] {} [] Proofs.Tryz.func82⟩
def zbk.b0 (N:Nat) (s0:ByteArray) (s5:Int) (s6:Int) (s7:Int) (b2:Value):Option (Round (Value × Int × Int) (ByteArray × Int × Int × Int × Value)):=
 cond (decide (s7<(s0.size:Int))) (cond (s7==(w6 ((s0.size:Int)-1))) ((zil s0 s7).bind fun x1001=>
  (cond (decide ((w6 ((w6 (x1001.toNat:Int)).tdiv 16))<10)) (some true) ((zil s0 s7).bind fun x1002=>
  some (decide (((x1002.toNat:Int).tmod 16)>9)))).bind fun g1003=>cond g1003 (some (.result ((⟨0,(⟨#[]⟩:ByteArray)⟩:Value),s7,21))) ((zil s0 s7).bind fun x1004=>
  some (.again (s0,(w6 ((w6 (10*s5))+((w6 (x1004.toNat:Int)).tmod 16))),(w6 ((w6 (x1001.toNat:Int)).tdiv 16)),(w6 (s7+1)),b2))))
  ((cond (decide (s6<10)) (some true) ((zil s0 s7).bind fun x1005=>some (decide (((x1005.toNat:Int).tmod 16)>9)))).bind fun g1006=>
  cond g1006 (some (.result ((⟨0,(⟨#[]⟩:ByteArray)⟩:Value),s7,21))) ((zil s0 s7).bind fun x1007=>
  some (.again (s0,(w6 ((w6 (10*s5))+((w6 (x1007.toNat:Int)).tmod 16))),s6,(w6 (s7+1)),b2)))))
  (some (.leave (s0,s5,s6,s7,b2)))
def zbk.r0 (N:Nat) (x:ByteArray × Int × Int × Int × Value):=zbk.b0 N x.1 x.2.1 x.2.2.1 x.2.2.2.1 x.2.2.2.2
def zbk (N:Nat) (a0:ByteArray):Option (Value × Int × Int):=
 (zo (zbk.r0 N) N (a0,0,15,0,(⟨0,(⟨#[]⟩:ByteArray)⟩:Value))).bind fun z2=>zbu z2 (fun z=>some z) (fun y1=>
  (zfx y1.2.1 y1.2.2.1).bind fun r3=>some ((⟨r3.1,(⟨#[]⟩:ByteArray)⟩:Value),0,0))
def zbk.k (N:Nat):Kq:=⟨38,(cvv [Ty.Value,T6,T6] [Ty.str] (zbk N)),go [zfx.k] {} [(0,.rets {slots:=[(0,.val Ty.str),(2,.ptr 2 0),(5,.val T6),(6,.val T6),(7,.val T6)],boxes:=[(2,Ty.Value,[])]} [Ty.str,T6,T6,T6,Ty.Value] (zo (zbk.r0 N) N))] Proofs.Tryz.func38 (hL:=⟨⟨_,_,rfl,by kernel_rfl⟩,trivial⟩)⟩
def zbg.b0 (N:Nat) (s1:ByteArray) (s7:Int) (s8:Int) (b2:DataType) (b4:Value):Option (Round (Value × Int × Int) (ByteArray × Int × Int × DataType × Value)):=
 cond (decide (s8<(w6 (2*(s1.size:Int))))) ((zil s1 (w6 (s8.tdiv 2))).bind fun x1001=>cond ((s8.tmod 2)==1)
  ((zil s1 (w6 (s8.tdiv 2))).bind fun x1002=>cond (s8==(w6 ((w6 (2*(s1.size:Int)))-1)))
  ((cond (decide (((w6 (x1002.toNat:Int)).tmod 16)<10)) (some true) ((cond (s8==0) (some ((b2.Length.tmod 2)==0)) (some false)).bind fun g1003=>
  (cond g1003 (some (((w6 (x1002.toNat:Int)).tmod 16) !=0)) (some false)).bind fun g1004=>some g1004)).bind fun g1005=>
  cond g1005 (some (.result ((⟨0,(⟨#[]⟩:ByteArray)⟩:Value),(w6 (s8.tdiv 2)),21)))
  (cond (s8==(w6 ((w6 (2*(s1.size:Int)))-1))) ((zfx s7 ((w6 (x1002.toNat:Int)).tmod 16)).bind fun r1006=>
  some (.again (s1,r1006.1,(w6 (s8+1)),b2,b4)))
  (some (.again (s1,(w6 ((w6 (10*s7))+((w6 (x1002.toNat:Int)).tmod 16))),(w6 (s8+1)),b2,b4)))))
  ((cond (decide (((w6 (x1002.toNat:Int)).tmod 16)>9)) (some true) ((cond (s8==0) (some ((b2.Length.tmod 2)==0)) (some false)).bind fun g1007=>
  (cond g1007 (some (((w6 (x1002.toNat:Int)).tmod 16) !=0)) (some false)).bind fun g1008=>some g1008)).bind fun g1009=>
  cond g1009 (some (.result ((⟨0,(⟨#[]⟩:ByteArray)⟩:Value),(w6 (s8.tdiv 2)),21)))
  (cond (s8==(w6 ((w6 (2*(s1.size:Int)))-1))) ((zfx s7 ((w6 (x1002.toNat:Int)).tmod 16)).bind fun r1010=>
  some (.again (s1,r1010.1,(w6 (s8+1)),b2,b4)))
  (some (.again (s1,(w6 ((w6 (10*s7))+((w6 (x1002.toNat:Int)).tmod 16))),(w6 (s8+1)),b2,b4))))))
  (cond (s8==(w6 ((w6 (2*(s1.size:Int)))-1))) ((cond (decide ((w6 ((w6 (x1001.toNat:Int)).tdiv 16))<10))
  (some true) ((cond (s8==0) (some ((b2.Length.tmod 2)==0)) (some false)).bind fun g1011=>
  (cond g1011 (some ((w6 ((w6 (x1001.toNat:Int)).tdiv 16)) !=0)) (some false)).bind fun g1012=>some g1012)).bind fun g1013=>
  cond g1013 (some (.result ((⟨0,(⟨#[]⟩:ByteArray)⟩:Value),(w6 (s8.tdiv 2)),21)))
  (cond (s8==(w6 ((w6 (2*(s1.size:Int)))-1)))
  ((zfx s7 (w6 ((w6 (x1001.toNat:Int)).tdiv 16))).bind fun r1014=>some (.again (s1,r1014.1,(w6 (s8+1)),b2,b4)))
  (some (.again (s1,(w6 ((w6 (10*s7))+(w6 ((w6 (x1001.toNat:Int)).tdiv 16)))),(w6 (s8+1)),b2,b4)))))
  ((cond (decide ((w6 ((w6 (x1001.toNat:Int)).tdiv 16))>9)) (some true) ((cond (s8==0) (some ((b2.Length.tmod 2)==0))
  (some false)).bind fun g1015=>(cond g1015 (some ((w6 ((w6 (x1001.toNat:Int)).tdiv 16)) !=0)) (some false)).bind fun g1016=>
  some g1016)).bind fun g1017=>cond g1017 (some (.result ((⟨0,(⟨#[]⟩:ByteArray)⟩:Value),(w6 (s8.tdiv 2)),21)))
  (cond (s8==(w6 ((w6 (2*(s1.size:Int)))-1)))
  ((zfx s7 (w6 ((w6 (x1001.toNat:Int)).tdiv 16))).bind fun r1018=>some (.again (s1,r1018.1,(w6 (s8+1)),b2,b4)))
  (some (.again (s1,(w6 ((w6 (10*s7))+(w6 ((w6 (x1001.toNat:Int)).tdiv 16)))),(w6 (s8+1)),b2,b4)))))))
  (some (.leave (s1,s7,s8,b2,b4)))
def zbg.r0 (N:Nat) (x:ByteArray × Int × Int × DataType × Value):=zbg.b0 N x.1 x.2.1 x.2.2.1 x.2.2.2.1 x.2.2.2.2
def zbg (N:Nat) (a0:DataType) (a1:ByteArray):Option (Value × Int × Int):=
 (zo (zbg.r0 N) N (a1,0,0,a0,(⟨0,(⟨#[]⟩:ByteArray)⟩:Value))).bind fun z2=>zbu z2 (fun z=>some z) (fun y1=>
  some ((⟨y1.2.1,(⟨#[]⟩:ByteArray)⟩:Value),0,0))
def zbg.k (N:Nat):Kq:=⟨39,(cvv [Ty.Value,T6,T6] [Ty.DataType,Ty.str] (zbg N)),go [zfx.k] {} [(0,.rets {slots:=[(1,.val Ty.str),(2,.ptr 2 0),(4,.ptr 4 0),(7,.val T6),(8,.val T6)],boxes:=[(2,Ty.DataType,[]),(4,Ty.Value,[])]} [Ty.str,T6,T6,Ty.DataType,Ty.Value] (zo (zbg.r0 N) N))] Proofs.Tryz.func39 (hL:=⟨⟨_,_,rfl,by kernel_rfl⟩,trivial⟩)⟩
def zhf (N:Nat) (a0:DataType) (a1:ByteArray):Option (Value × Int × Int):=
 (zeq a0).bind fun r1=>cond (r1 !=0) (some ((⟨0,(⟨#[]⟩:ByteArray)⟩:Value),0,r1)) (cond (a0.Kind==4) (some ((⟨0,(⟨#[]⟩:ByteArray)⟩:Value),0,17))
  ((zaw a0).bind fun r2=>cond ((a1.size:Int) !=r2) (some ((⟨0,(⟨#[]⟩:ByteArray)⟩:Value),0,18)) (cond (a0.Kind==0) (some ((⟨0,a1⟩:Value),0,0))
  (cond (a0.Kind==3) ((zbt N a1 0 (a1.size:Int)).bind fun r3=>(zil a1 0).bind fun x4=>cond (decide ((x4.toNat:Int)≥128))
  (if(w6 (8*(a1.size:Int)))<0 then none else(zf9 N a0).bind fun r5=>(zf9 N a0).bind fun r6=>
  (zg (w6 (r3-(w6 (1*2^(min (w6 (8*(a1.size:Int))).toNat 64))))) (w6 (0-r5)) r6).bind fun r7=>
  cond (!r7) (some ((⟨0,(⟨#[]⟩:ByteArray)⟩:Value),0,19))
  (some ((⟨(w6 (r3-(w6 (1*2^(min (w6 (8*(a1.size:Int))).toNat 64))))),(⟨#[]⟩:ByteArray)⟩:Value),0,0)))
  ((zf9 N a0).bind fun r8=>(zf9 N a0).bind fun r9=>(zg r3 (w6 (0-r8)) r9).bind fun r10=>cond (!r10)
  (some ((⟨0,(⟨#[]⟩:ByteArray)⟩:Value),0,19)) (some ((⟨r3,(⟨#[]⟩:ByteArray)⟩:Value),0,0)))) (cond (a0.Kind==2) ((zbk N a1).bind fun r11=>
  some (r11.1,r11.2.1,r11.2.2)) ((zbg N a0 a1).bind fun r12=>some (r12.1,r12.2.1,r12.2.2)))))))
def zhf.k (N:Nat):Kq:=⟨16,(cvv [Ty.Value,T6,T6] [Ty.DataType,Ty.str] (zhf N)),go [zg.k,zeq.k,zf9.k N,zaw.k,zbt.k N,zbk.k N,zbg.k N] {lits:=[35,51]} [] Proofs.Tryz.func16⟩
def zmb (a0:List Int):Option ((List Int)):=
 cond (Nat.ble (a0.length*8) zr) (some a0) none
def zmb.k:Kq:=⟨83,(ctv [.val (Ty.sl T6)] [(Ty.sl T6)] [] [0] [(Ty.sl T6)] zmb),go [] {} [] Proofs.Tryz.func83⟩
def zj6 (a0:List ByteArray):Option ((List ByteArray)):=
 cond (Nat.ble (a0.length*16) zr) (some a0) none
def zj6.k:Kq:=⟨84,(ctv [.val (Ty.sl Ty.str)] [(Ty.sl Ty.str)] [] [0] [(Ty.sl Ty.str)] zj6),go [] {} [] Proofs.Tryz.func84⟩
def zm3 (a0:zC):Option zC:=
 cond (Nat.ble (a0.Registers.length*16) zr) ((zc6 a0.Storage).bind fun r1=>(zmb a0.Stack).bind fun r2=>(zj6 a0.Lines).bind fun r3=>
  some {a0 with Storage:=r1,Stack:=r2,Lines:=r3}) none
def zm3.k:Kq:=⟨40,(ctv [.val Ty.zC] [Ty.zC] [] [0,5,6] [Ty.zC] zm3),go [zc6.k,zmb.k,zj6.k] {} [] Proofs.Tryz.func40⟩
def zfz (a0:Int):Option Int:=
 some (if(w6 (0-a0))>a0 then(w6 (0-a0))else a0)
def zfz.k:Kq:=⟨219,(cvv [T6] [T6] zfz),go [] {} [] Proofs.Tryz.func219⟩
def zcb.b0 (N:Nat) (s0:List Int):Option (Stp (List Int)):=
 (cond (decide ((s0.length:Int)>0)) ((idx s0 (w6 ((s0.length:Int)-1))).bind fun x1001=>some (x1001==0)) (some false)).bind fun g1002=>
  cond g1002 (if 0≤(w6 ((s0.length:Int)-1))∧(w6 ((s0.length:Int)-1))≤(s0.length:Int)then(if 0≤(0:Int)∧(0:Int)≤(w6 ((s0.length:Int)-1))then(some (.again ((s0.take (w6 ((s0.length:Int)-1)).toNat).drop (0:Int).toNat)))else none)else none)
  (some (.leave s0))
def zcb.r0 (N:Nat) (x:(List Int)):=zcb.b0 N x
def zcb (N:Nat) (a0:List Int):Option ((List Int)):=
 (zh (zcb.r0 N) N a0).bind fun y1=>some y1
def zcb.k (N:Nat):Kq:=⟨291,(cvv [(Ty.sl T6)] [(Ty.sl T6)] (zcb N)),go [] {} [(0,.plain {slots:=[(0,.val (Ty.sl T6))],boxes:=[]} [(Ty.sl T6)] (zh (zcb.r0 N) N))] Proofs.Tryz.func291 (hL:=⟨⟨_,_,rfl,by kernel_rfl⟩,trivial⟩)⟩
def zc0.b0 (N:Nat) (s0:Int) (s5:List Int) (s6:Int) (b4:zL):Option (Stp (Int × (List Int) × Int × zL)):=
 cond (decide (s6>0)) (cond (Nat.ble ((s5.length+([(s6.tmod 10)]:List Int).length)*8) zr)
  (some (.again (s0,(s5++([(s6.tmod 10)]:List Int)),(w6 (s6.tdiv 10)),b4))) none) (some (.leave (s0,s5,s6,b4)))
def zc0.r0 (N:Nat) (x:Int × (List Int) × Int × zL):=zc0.b0 N x.1 x.2.1 x.2.2.1 x.2.2.2
def zc0 (N:Nat) (a0:Int) (a1:Int):Option zL:=
 if 0≤a1 then(if a1≤a1 then(cond (Nat.ble (a1.toNat*8) zr) ((zfz a0).bind fun r1=>
  (zh (zc0.r0 N) N (a0,(List.replicate a1.toNat (0:Int)),r1,(⟨false,[]⟩:zL))).bind fun y2=>(zcb N y2.2.1).bind fun r3=>
  some (⟨(decide (y2.1<0)),r3⟩:zL)) none)else none)else none
def zc0.k (N:Nat):Kq:=⟨214,(cvv [Ty.zL] [T6,T6] (zc0 N)),go [zfz.k,zcb.k N] {lits:=[18]} [(0,.plain {slots:=[(0,.val T6),(4,.ptr 4 0),(5,.own 5000005 T6),(6,.val T6)],boxes:=[(4,Ty.zL,[1])]} [T6,(Ty.sl T6),T6,Ty.zL] (zh (zc0.r0 N) N))] Proofs.Tryz.func214 (hL:=⟨⟨_,_,rfl,by kernel_rfl⟩,trivial⟩)⟩
def zhr (N:Nat) (a0:Number) (a1:Number):Option (zL × zL × Int):=
 (zc0 N a0.N (w6 ((if a1.Scale>a0.Scale then a1.Scale else a0.Scale)-a0.Scale))).bind fun r1=>
  (zc0 N a1.N (w6 ((if a1.Scale>a0.Scale then a1.Scale else a0.Scale)-a1.Scale))).bind fun r2=>
  some (r1,r2,(if a1.Scale>a0.Scale then a1.Scale else a0.Scale))
def zhr.k (N:Nat):Kq:=⟨144,(cvv [Ty.zL,Ty.zL,T6] [Ty.Number,Ty.Number] (zhr N)),go [zc0.k N] {} [] Proofs.Tryz.func144⟩
def zc4.b0 (N:Nat) (s0:List Int) (s1:List Int) (s5:List Int) (s6:Int) (s7:Int):Option (Stp ((List Int) × (List Int) × (List Int) × Int × Int)):=
 (cond (decide (s7<(s0.length:Int))) (some true) (some (decide (s7<(s1.length:Int))))).bind fun g1001=>(cond g1001 (some true) (some (decide (s6>0)))).bind fun g1002=>
  cond g1002 (cond (decide (s7<(s0.length:Int))) ((idx s0 s7).bind fun x1003=>cond (decide (s7<(s1.length:Int))) ((idx s1 s7).bind fun x1004=>
  cond (Nat.ble ((s5.length+([((w6 ((w6 (s6+x1003))+x1004)).tmod 10)]:List Int).length)*8) zr)
  (some (.again (s0,s1,(s5++([((w6 ((w6 (s6+x1003))+x1004)).tmod 10)]:List Int)),(w6 ((w6 ((w6 (s6+x1003))+x1004)).tdiv 10)),(w6 (s7+1))))) none)
  (cond (Nat.ble ((s5.length+([((w6 (s6+x1003)).tmod 10)]:List Int).length)*8) zr)
  (some (.again (s0,s1,(s5++([((w6 (s6+x1003)).tmod 10)]:List Int)),(w6 ((w6 (s6+x1003)).tdiv 10)),(w6 (s7+1))))) none))
  (cond (decide (s7<(s1.length:Int))) ((idx s1 s7).bind fun x1005=>cond (Nat.ble ((s5.length+([((w6 (s6+x1005)).tmod 10)]:List Int).length)*8) zr)
  (some (.again (s0,s1,(s5++([((w6 (s6+x1005)).tmod 10)]:List Int)),(w6 ((w6 (s6+x1005)).tdiv 10)),(w6 (s7+1))))) none)
  (cond (Nat.ble ((s5.length+([(s6.tmod 10)]:List Int).length)*8) zr)
  (some (.again (s0,s1,(s5++([(s6.tmod 10)]:List Int)),(w6 (s6.tdiv 10)),(w6 (s7+1))))) none))) (some (.leave (s0,s1,s5,s6,s7)))
def zc4.r0 (N:Nat) (x:(List Int) × (List Int) × (List Int) × Int × Int):=zc4.b0 N x.1 x.2.1 x.2.2.1 x.2.2.2.1 x.2.2.2.2
def zc4 (N:Nat) (a0:List Int) (a1:List Int):Option ((List Int)):=
 (zh (zc4.r0 N) N (a0,a1,[],0,0)).bind fun y1=>some y1.2.2.1
def zc4.k (N:Nat):Kq:=⟨215,(cvv [(Ty.sl T6)] [(Ty.sl T6),(Ty.sl T6)] (zc4 N)),go [] {lits:=[49]} [(0,.plain {slots:=[(0,.val (Ty.sl T6)),(1,.val (Ty.sl T6)),(5,.own 5000005 T6),(6,.val T6),(7,.val T6)],boxes:=[]} [(Ty.sl T6),(Ty.sl T6),(Ty.sl T6),T6,T6] (zh (zc4.r0 N) N))] Proofs.Tryz.func215 (hL:=⟨⟨_,_,rfl,by kernel_rfl⟩,trivial⟩)⟩
def zc7.b0 (N:Nat) (s0:List Int) (s1:List Int) (s5:Int):Option (Round Int ((List Int) × (List Int) × Int)):=
 cond (decide (s5≥0)) ((idx s0 s5).bind fun x1001=>(idx s1 s5).bind fun x1002=>cond (x1001 !=x1002) ((idx s0 s5).bind fun x1003=>(idx s1 s5).bind fun x1004=>
  (zbb (decide (x1003>x1004))).bind fun r1005=>some (.result (w6 ((w6 (2*r1005))-1))))
  (some (.again (s0,s1,(w6 (s5-1)))))) (some (.leave (s0,s1,s5)))
def zc7.r0 (N:Nat) (x:(List Int) × (List Int) × Int):=zc7.b0 N x.1 x.2.1 x.2.2
def zc7 (N:Nat) (a0:List Int) (a1:List Int):Option Int:=
 cond ((a0.length:Int) !=(a1.length:Int)) ((zbb (decide ((a0.length:Int)>(a1.length:Int)))).bind fun r1=>
  some (w6 ((w6 (2*r1))-1))) ((zo (zc7.r0 N) N (a0,a1,(w6 ((a0.length:Int)-1)))).bind fun z3=>zbu z3 (fun z=>
  some z) (fun y2=>some 0))
def zc7.k (N:Nat):Kq:=⟨216,(cvv [T6] [(Ty.sl T6),(Ty.sl T6)] (zc7 N)),go [zbb.k] {} [(0,.rets {slots:=[(0,.val (Ty.sl T6)),(1,.val (Ty.sl T6)),(5,.val T6)],boxes:=[]} [(Ty.sl T6),(Ty.sl T6),T6] (zo (zc7.r0 N) N))] Proofs.Tryz.func216 (hL:=⟨⟨_,_,rfl,by kernel_rfl⟩,trivial⟩)⟩
def zdl.b0 (N:Nat) (s0:List Int) (s1:List Int) (s5:List Int) (s6:Int) (s7:Int):Option (Stp ((List Int) × (List Int) × (List Int) × Int × Int)):=
 cond (decide (s7<(s0.length:Int))) ((idx s0 s7).bind fun x1001=>cond (decide (s7<(s1.length:Int))) ((idx s1 s7).bind fun x1002=>
  (zbb (decide ((w6 ((w6 (x1001-s6))-x1002))<0))).bind fun r1003=>
  cond (Nat.ble ((s5.length+([(w6 ((w6 ((w6 (x1001-s6))-x1002))+(w6 (10*r1003))))]:List Int).length)*8) zr)
  (some (.again (s0,s1,(s5++([(w6 ((w6 ((w6 (x1001-s6))-x1002))+(w6 (10*r1003))))]:List Int)),r1003,(w6 (s7+1))))) none)
  ((zbb (decide ((w6 (x1001-s6))<0))).bind fun r1004=>
  cond (Nat.ble ((s5.length+([(w6 ((w6 (x1001-s6))+(w6 (10*r1004))))]:List Int).length)*8) zr)
  (some (.again (s0,s1,(s5++([(w6 ((w6 (x1001-s6))+(w6 (10*r1004))))]:List Int)),r1004,(w6 (s7+1))))) none))
  (some (.leave (s0,s1,s5,s6,s7)))
def zdl.r0 (N:Nat) (x:(List Int) × (List Int) × (List Int) × Int × Int):=zdl.b0 N x.1 x.2.1 x.2.2.1 x.2.2.2.1 x.2.2.2.2
def zdl (N:Nat) (a0:List Int) (a1:List Int):Option ((List Int)):=
 (zh (zdl.r0 N) N (a0,a1,[],0,0)).bind fun y1=>(zcb N y1.2.2.1).bind fun r2=>some r2
def zdl.k (N:Nat):Kq:=⟨217,(cvv [(Ty.sl T6)] [(Ty.sl T6),(Ty.sl T6)] (zdl N)),go [zbb.k,zcb.k N] {lits:=[39]} [(0,.plain {slots:=[(0,.val (Ty.sl T6)),(1,.val (Ty.sl T6)),(5,.own 5000005 T6),(6,.val T6),(7,.val T6)],boxes:=[]} [(Ty.sl T6),(Ty.sl T6),(Ty.sl T6),T6,T6] (zh (zdl.r0 N) N))] Proofs.Tryz.func217 (hL:=⟨⟨_,_,rfl,by kernel_rfl⟩,trivial⟩)⟩
def zkj (N:Nat) (a0:zL) (a1:zL):Option zL:=
 cond (a0.Below==a1.Below) ((zc4 N a0.zZ a1.zZ).bind fun r1=>some (⟨a0.Below,r1⟩:zL)) ((zc7 N a0.zZ a1.zZ).bind fun r2=>
  cond (decide (r2<0)) ((zdl N a1.zZ a0.zZ).bind fun r3=>(cond a1.Below (some (decide ((r3.length:Int)>0))) (some false)).bind fun g4=>
  some (⟨g4,r3⟩:zL)) ((zdl N a0.zZ a1.zZ).bind fun r5=>(cond a0.Below (some (decide ((r5.length:Int)>0))) (some false)).bind fun g6=>
  some (⟨g6,r5⟩:zL)))
def zkj.k (N:Nat):Kq:=⟨145,(cvv [Ty.zL] [Ty.zL,Ty.zL] (zkj N)),go [zc4.k N,zc7.k N,zdl.k N] {} [] Proofs.Tryz.func145⟩
def zgx (N:Nat) (a0:Number) (a1:Number):Option Int:=
 (zhr N a0 a1).bind fun r1=>(zkj N r1.1 (⟨(!r1.2.1.Below),r1.2.1.zZ⟩:zL)).bind fun r2=>cond ((r2.zZ.length:Int)==0) (some 0)
  ((zbb r2.Below).bind fun r3=>some (w6 (1-(w6 (2*r3)))))
def zgx.k (N:Nat):Kq:=⟨86,(cvv [T6] [Ty.Number,Ty.Number] (zgx N)),go [zbb.k,zhr.k N,zkj.k N] {} [] Proofs.Tryz.func86⟩
def zc3 (a0:Int):Option Int:=
 cond (decide (a0<0)) (some 1) (cond (a0==0) (some 2) (some 4))
def zc3.k:Kq:=⟨85,(cvv [T6] [T6] zc3),go [] {} [] Proofs.Tryz.func85⟩
def zf4 (N:Nat) (a0:Number):Option Int:=
 (zd1 N a0.Scale).bind fun r1=>if r1=0 then none else some (w6 ((a0.N:Int).tdiv r1))
def zf4.k (N:Nat):Kq:=⟨87,(cvv [T6] [Ty.Number] (zf4 N)),go [zd1.k N] {} [] Proofs.Tryz.func87⟩
def zc9:Nat→Int→Option ByteArray
 | 0,_=>none
 | N+1,a0=>
 cond (decide (a0<(-9))) ((zc9 N (w6 (0-(w6 (a0.tdiv 10))))).bind fun r1=>
  if(((⟨#[45]⟩:ByteArray).size+r1.size:Nat):Int)>IntKind.i64.max then none else(zc9 N (w6 (0-(a0.tmod 10)))).bind fun r2=>
  if((((⟨#[45]⟩:ByteArray)++r1).size+r2.size:Nat):Int)>IntKind.i64.max then none else some (((⟨#[45]⟩:ByteArray)++r1)++r2)) (cond (decide (a0<0))
  ((zc9 N (w6 (0-a0))).bind fun r3=>
  if(((⟨#[45]⟩:ByteArray).size+r3.size:Nat):Int)>IntKind.i64.max then none else some ((⟨#[45]⟩:ByteArray)++r3)) (cond (decide (a0<10))
  (some (zdg ([(IntKind.wrap .u8 (w6 (48+a0)))]:List Int))) ((zc9 N (w6 (a0.tdiv 10))).bind fun r4=>
  if((r4.size+(zdg ([(IntKind.wrap .u8 (w6 (48+(a0.tmod 10))))]:List Int)).size:Nat):Int)>IntKind.i64.max then none else some (r4++(zdg ([(IntKind.wrap .u8 (w6 (48+(a0.tmod 10))))]:List Int))))))
def zc9.t (N:Nat):Ct U:=(cvv [Ty.str] [T6] (zc9 N))
theorem zc9.m:∀N:Nat,ziv K0 218 (zc9.t N)
 | 0=>z86 Proofs.Tryz.func218 (by kernel_rfl) rfl fun ds y hy=>by have:=z2s (U:=U) [T6] (zc9 0) (fun _=>none) (by intro a0;show none=zc9 0 a0;rfl) ds y hy;cases this
 | N+1=>go [⟨218,zc9.t N,zc9.m N⟩] {} [] Proofs.Tryz.func218
def zc9.k (N:Nat):Kq:=⟨218,zc9.t N,zc9.m N⟩
def zd0.b0 (N:Nat) (s3:ByteArray) (b1:Number):Option (Stp (ByteArray × Number)):=
 cond (decide ((s3.size:Int)≤b1.Scale))
  (if(((⟨#[48]⟩:ByteArray).size+s3.size:Nat):Int)>IntKind.i64.max then none else some (.again (((⟨#[48]⟩:ByteArray)++s3),b1))) (some (.leave (s3,b1)))
def zd0.r0 (N:Nat) (x:ByteArray × Number):=zd0.b0 N x.1 x.2
def zd0 (N:Nat) (a0:Number):Option ByteArray:=
 (zfz a0.N).bind fun r1=>(zc9 N r1).bind fun r2=>(zh (zd0.r0 N) N (r2,a0)).bind fun y3=>cond (decide (y3.2.Scale>0))
  (if 0≤(w6 ((y3.1.size:Int)-y3.2.Scale))∧(w6 ((y3.1.size:Int)-y3.2.Scale))≤(y3.1.size:Int)then(if 0≤(0:Int)∧(0:Int)≤(w6 ((y3.1.size:Int)-y3.2.Scale))then(if(((y3.1.extract (0:Int).toNat (w6 ((y3.1.size:Int)-y3.2.Scale)).toNat).size+(⟨#[46]⟩:ByteArray).size:Nat):Int)>IntKind.i64.max then none else if 0≤(w6 ((y3.1.size:Int)-y3.2.Scale))∧(w6 ((y3.1.size:Int)-y3.2.Scale))≤(y3.1.size:Int)then(if((((y3.1.extract (0:Int).toNat (w6 ((y3.1.size:Int)-y3.2.Scale)).toNat)++(⟨#[46]⟩:ByteArray)).size+(y3.1.extract (w6 ((y3.1.size:Int)-y3.2.Scale)).toNat y3.1.size).size:Nat):Int)>IntKind.i64.max then none else cond (decide (y3.2.N<0))
  (if(((⟨#[45]⟩:ByteArray).size+(((y3.1.extract (0:Int).toNat (w6 ((y3.1.size:Int)-y3.2.Scale)).toNat)++(⟨#[46]⟩:ByteArray))++(y3.1.extract (w6 ((y3.1.size:Int)-y3.2.Scale)).toNat y3.1.size)).size:Nat):Int)>IntKind.i64.max then none else some ((⟨#[45]⟩:ByteArray)++(((y3.1.extract (0:Int).toNat (w6 ((y3.1.size:Int)-y3.2.Scale)).toNat)++(⟨#[46]⟩:ByteArray))++(y3.1.extract (w6 ((y3.1.size:Int)-y3.2.Scale)).toNat y3.1.size))))
  (some (((y3.1.extract (0:Int).toNat (w6 ((y3.1.size:Int)-y3.2.Scale)).toNat)++(⟨#[46]⟩:ByteArray))++(y3.1.extract (w6 ((y3.1.size:Int)-y3.2.Scale)).toNat y3.1.size))))else none)else none)else none)
  (cond (decide (y3.2.N<0)) (if(((⟨#[45]⟩:ByteArray).size+y3.1.size:Nat):Int)>IntKind.i64.max then none else some ((⟨#[45]⟩:ByteArray)++y3.1)) (some y3.1))
def zd0.k (N:Nat):Kq:=⟨146,(cvv [Ty.str] [Ty.Number] (zd0 N)),go [zc9.k N,zfz.k] {lits:=[6]} [(0,.plain {slots:=[(1,.ptr 1 0),(3,.val Ty.str)],boxes:=[(1,Ty.Number,[])]} [Ty.str,Ty.Number] (zh (zd0.r0 N) N))] Proofs.Tryz.func146 (hL:=⟨⟨_,_,rfl,by kernel_rfl⟩,trivial⟩)⟩
def zf8 (N:Nat) (a0:Storage) (a1:Int):Option (Pointer × Int):=
 (zer a0 a1).bind fun r1=>cond (!r1) (some ((⟨0,(⟨0,0⟩:Address),0⟩:Pointer),3)) ((idx a0.Tags (w6 (a1.tdiv 16))).bind fun x2=>cond (!x2)
  (some ((⟨0,(⟨0,0⟩:Address),0⟩:Pointer),22)) ((zi5 a0 (w6 (a1.tdiv 16))).bind fun r3=>(zkv N r3).bind fun r4=>some (r4.1,0)))
def zf8.k (N:Nat):Kq:=⟨150,(cvv [Ty.Pointer,T6] [Ty.Storage,T6] (zf8 N)),go [zer.k,zkv.k N,zi5.k] {lits:=[25]} [] Proofs.Tryz.func150⟩
def zbw (N:Nat) (a0:zC) (a1:zN) (a2:Int):Option (Int × Int):=
 cond (!a1.Based) (some (a1.Offset,0)) ((zf8 N a0.Storage a1.Pointer).bind fun r1=>cond (r1.2 !=0) (some (0,4))
  ((zhq a0.Storage (w6 (r1.1.Address.Offset+a1.Offset)) a2).bind fun r2=>cond (!r2) (some (0,5))
  (some ((w6 (r1.1.Address.Offset+a1.Offset)),0))))
def zbw.k (N:Nat):Kq:=⟨148,(cvv [T6,T6] [Ty.zC,Ty.zN,T6] (zbw N)),go [zf8.k N,zhq.k] {} [] Proofs.Tryz.func148⟩
def zdh (N:Nat) (a0:zC) (a1:zN) (a2:DataType):Option (ByteArray × Int):=
 (zaw a2).bind fun r1=>(zbw N a0 a1 r1).bind fun r2=>cond (r2.2 !=0) (some ((⟨#[]⟩:ByteArray),r2.2)) ((zaw a2).bind fun r3=>
  if 0≤(w6 (r2.1+r3))∧(w6 (r2.1+r3))≤(a0.Storage.Bytes.size:Int)then(if 0≤r2.1∧r2.1≤(w6 (r2.1+r3))then(some ((a0.Storage.Bytes.extract r2.1.toNat (w6 (r2.1+r3)).toNat),0))else none)else none)
def zdh.k (N:Nat):Kq:=⟨147,(cvv [Ty.str,T6] [Ty.zC,Ty.zN,Ty.DataType] (zdh N)),go [zaw.k,zbw.k N] {lits:=[14]} [] Proofs.Tryz.func147⟩
def zn8 (N:Nat) (a0:zC) (a1:zB):Option (Int × zC):=
 cond (a1.Op==22) (if 0≤a1.R then(if a1.R<(a0.Registers.length:Int)then((a0.Registers[a1.R.toNat]?).bind fun x1=>(zd0 N x1).bind fun r2=>
  cond ((a0.Lines.length:Int)==40) (some (0,{a0 with Status:=3}))
  (cond (Nat.ble ((a0.Lines.length+([r2]:List ByteArray).length)*16) zr)
  (some (0,{a0 with Lines:=(a0.Lines++([r2]:List ByteArray))})) none))else none)else none)
  (cond (a1.Op==23) ((zdh N a0 a1.Place a1.zF).bind fun r3=>cond (r3.2 !=0) (some (r3.2,a0)) (cond ((a0.Lines.length:Int)==40)
  (some (0,{a0 with Status:=3}))
  (cond (Nat.ble ((a0.Lines.length+([r3.1]:List ByteArray).length)*16) zr)
  (some (0,{a0 with Lines:=(a0.Lines++([r3.1]:List ByteArray))})) none)))
  (cond ((a0.Lines.length:Int)==40) (some (0,{a0 with Status:=3}))
  (cond (Nat.ble ((a0.Lines.length+([a1.Text]:List ByteArray).length)*16) zr)
  (some (0,{a0 with Lines:=(a0.Lines++([a1.Text]:List ByteArray))})) none)))
def zn8.k (N:Nat):Kq:=⟨88,(ctv [.ptr Ty.zC true [0,5,6],.val Ty.zB] [T6] [Ty.zC] [] [Ty.zC,Ty.zB] (zn8 N)),go [zd0.k N,zdh.k N] {lits:=[55],pk:=[1000000]} [] Proofs.Tryz.func88⟩
def zay.b0 (N:Nat) (s0:Int) (s1:Int) (s5:List Int) (s6:Int):Option (Stp (Int × Int × (List Int) × Int)):=
 cond (decide (s6<s1))
  (if 0≤(w6 ((w6 (s1-1))-s6))then(if(w6 ((w6 (s1-1))-s6))<(s5.length:Int)then((s5[(w6 ((w6 (s1-1))-s6)).toNat]?).bind fun x1001=>
  some (.again ((w6 (s0.tdiv 256)),s1,(s5.set ((w6 ((w6 (s1-1))-s6)).toNat)
  (IntKind.wrap .u8 (s0.tmod 256))),(w6 (s6+1)))))else none)else none) (some (.leave (s0,s1,s5,s6)))
def zay.r0 (N:Nat) (x:Int × Int × (List Int) × Int):=zay.b0 N x.1 x.2.1 x.2.2.1 x.2.2.2
def zay (N:Nat) (a0:Int) (a1:Int):Option ByteArray:=
 if 0≤a1 then(if a1≤a1 then(cond (Nat.ble (a1.toNat*1) zr) ((zh (zay.r0 N) N (a0,a1,(List.replicate a1.toNat (0:Int)),0)).bind fun y1=>
  some (zdg y1.2.2.1)) none)else none)else none
def zay.k (N:Nat):Kq:=⟨225,(cvv [Ty.str] [T6,T6] (zay N)),go [] {} [(0,.plain {slots:=[(0,.val T6),(1,.val T6),(5,.own 5000005 (Ty.int .u8)),(6,.val T6)],boxes:=[]} [T6,T6,(Ty.sl (Ty.int .u8)),T6] (zh (zay.r0 N) N))] Proofs.Tryz.func225 (hL:=⟨⟨_,_,rfl,by kernel_rfl⟩,trivial⟩)⟩
def zmg (N:Nat) (a0:Pointer):Option ByteArray:=
 (zay N a0.Kind 1).bind fun r1=>if((r1.size+(⟨#[0]⟩:ByteArray).size:Nat):Int)>IntKind.i64.max then none else(zay N a0.Authority 2).bind fun r2=>
  if(((r1++(⟨#[0]⟩:ByteArray)).size+r2.size:Nat):Int)>IntKind.i64.max then none else(zay N a0.Address.yF 6).bind fun r3=>
  if((((r1++(⟨#[0]⟩:ByteArray))++r2).size+r3.size:Nat):Int)>IntKind.i64.max then none else(zay N a0.Address.Offset 6).bind fun r4=>
  if(((((r1++(⟨#[0]⟩:ByteArray))++r2)++r3).size+r4.size:Nat):Int)>IntKind.i64.max then none else some ((((r1++(⟨#[0]⟩:ByteArray))++r2)++r3)++r4)
def zmg.k (N:Nat):Kq:=⟨220,(cvv [Ty.str] [Ty.Pointer] (zmg N)),go [zay.k N] {} [] Proofs.Tryz.func220⟩
def znc (a0:ByteArray) (a1:Int) (a2:ByteArray):Option ByteArray:=
 if 0≤a1∧a1≤(a0.size:Int)then(if 0≤(0:Int)∧(0:Int)≤a1 then(if(((a0.extract (0:Int).toNat a1.toNat).size+a2.size:Nat):Int)>IntKind.i64.max then none else if 0≤(w6 (a1+(a2.size:Int)))∧(w6 (a1+(a2.size:Int)))≤(a0.size:Int)then(if((((a0.extract (0:Int).toNat a1.toNat)++a2).size+(a0.extract (w6 (a1+(a2.size:Int))).toNat a0.size).size:Nat):Int)>IntKind.i64.max then none else some (((a0.extract (0:Int).toNat a1.toNat)++a2)++(a0.extract (w6 (a1+(a2.size:Int))).toNat a0.size)))else none)else none)else none
def znc.k:Kq:=⟨221,(cvv [Ty.str] [Ty.str,T6,Ty.str] znc),go [] {} [] Proofs.Tryz.func221⟩
def zbi.b0 (N:Nat) (s1:Int) (s2:ByteArray) (s8:Int) (b6:Storage) (b7:Storage):Option (Stp (Int × ByteArray × Int × Storage × Storage)):=
 cond (decide (s8<(s2.size:Int)))
  (if 0≤(w6 ((w6 (s1+s8)).tdiv 16))then(if(w6 ((w6 (s1+s8)).tdiv 16))<(b7.Tags.length:Int)then((b7.Tags[(w6 ((w6 (s1+s8)).tdiv 16)).toNat]?).bind fun x1001=>
  some (.again (s1,s2,(w6 (s8+1)),b6,(⟨b7.Bytes,(b7.Tags.set ((w6 ((w6 (s1+s8)).tdiv 16)).toNat) false)⟩:Storage))))else none)else none)
  (some (.leave (s1,s2,s8,b6,b7)))
def zbi.r0 (N:Nat) (x:Int × ByteArray × Int × Storage × Storage):=zbi.b0 N x.1 x.2.1 x.2.2.1 x.2.2.2.1 x.2.2.2.2
def zbi (N:Nat) (a0:Storage) (a1:Int) (a2:ByteArray):Option Storage:=
 (zc6 a0).bind fun r1=>(znc a0.Bytes a1 a2).bind fun r2=>
  (zh (zbi.r0 N) N (a1,a2,0,(⟨(⟨#[]⟩:ByteArray),[]⟩:Storage),(⟨r2,r1.Tags⟩:Storage))).bind fun y3=>some y3.2.2.2.2
def zbi.k (N:Nat):Kq:=⟨152,(ctv [.val Ty.Storage,.val T6,.val Ty.str] [Ty.Storage] [] [1] [Ty.Storage,T6,Ty.str] (zbi N)),go [zc6.k,znc.k] {} [(0,.plain {slots:=[(1,.val T6),(2,.val Ty.str),(6,.ptr 6 0),(7,.ptr 7 0),(8,.val T6)],boxes:=[(6,Ty.Storage,[1]),(7,Ty.Storage,[1])]} [T6,Ty.str,T6,Ty.Storage,Ty.Storage] (zh (zbi.r0 N) N))] Proofs.Tryz.func152 (hL:=⟨⟨_,_,rfl,by kernel_rfl⟩,trivial⟩)⟩
def zeu (N:Nat) (a0:Storage) (a1:Int) (a2:Pointer):Option Storage:=
 (zmg N a2).bind fun r1=>(zbi N a0 a1 r1).bind fun r2=>
  if 0≤(w6 (a1.tdiv 16))then(if(w6 (a1.tdiv 16))<(r2.Tags.length:Int)then((r2.Tags[(w6 (a1.tdiv 16)).toNat]?).bind fun x3=>
  some (⟨r2.Bytes,(r2.Tags.set ((w6 (a1.tdiv 16)).toNat) true)⟩:Storage))else none)else none
def zeu.k (N:Nat):Kq:=⟨149,(ctv [.val Ty.Storage,.val T6,.val Ty.Pointer] [Ty.Storage] [] [1] [Ty.Storage,T6,Ty.Pointer] (zeu N)),go [zbi.k N,zmg.k N] {lits:=[11]} [] Proofs.Tryz.func149⟩
def zn9 (N:Nat) (a0:zC) (a1:zB):Option (Int × zC):=
 cond (a1.Op==14) ((zaw a1.zF).bind fun r1=>(zbw N a0 a1.Place r1).bind fun r2=>cond (r2.2 !=0) (some (r2.2,a0))
  ((zeu N a0.Storage a1.Pointer (⟨0,(⟨1,r2.1⟩:Address),0⟩:Pointer)).bind fun r3=>
  some (0,{a0 with Storage:=r3}))) (cond (a1.Op==15)
  ((zf8 N a0.Storage a1.Source).bind fun r4=>cond (r4.2 !=0) (some (4,a0)) (cond (a1.Op==15) ((zeu N a0.Storage a1.Pointer r4.1).bind fun r5=>
  some (0,{a0 with Storage:=r5})) (cond (a1.Op==16)
  (if 0≤a1.R then(if a1.R<(a0.Registers.length:Int)then((a0.Registers[a1.R.toNat]?).bind fun x6=>(zf4 N x6).bind fun r7=>
  (zg (w6 (r4.1.Address.Offset+r7)) 0 16777215).bind fun r8=>cond (!r8) (some (5,a0))
  ((zeu N a0.Storage a1.Pointer (⟨r4.1.Kind,(⟨r4.1.Address.yF,(w6 (r4.1.Address.Offset+r7))⟩:Address),r4.1.Authority⟩:Pointer)).bind fun r9=>
  some (0,{a0 with Storage:=r9})))else none)else none) (some (0,a0)))))
  ((zf8 N a0.Storage a1.Pointer).bind fun r10=>cond (r10.2 !=0) (some (4,a0)) (cond (a1.Op==15) ((zeu N a0.Storage a1.Pointer r10.1).bind fun r11=>
  some (0,{a0 with Storage:=r11})) (cond (a1.Op==16)
  (if 0≤a1.R then(if a1.R<(a0.Registers.length:Int)then((a0.Registers[a1.R.toNat]?).bind fun x12=>(zf4 N x12).bind fun r13=>
  (zg (w6 (r10.1.Address.Offset+r13)) 0 16777215).bind fun r14=>cond (!r14) (some (5,a0))
  ((zeu N a0.Storage a1.Pointer (⟨r10.1.Kind,(⟨r10.1.Address.yF,(w6 (r10.1.Address.Offset+r13))⟩:Address),r10.1.Authority⟩:Pointer)).bind fun r15=>
  some (0,{a0 with Storage:=r15})))else none)else none) (some (0,a0))))))
def zn9.k (N:Nat):Kq:=⟨89,(ctv [.ptr Ty.zC true [0,5,6],.val Ty.zB] [T6] [Ty.zC] [] [Ty.zC,Ty.zB] (zn9 N)),go [zg.k,zaw.k,zf4.k N,zbw.k N,zeu.k N,zf8.k N] {lits:=[21],pk:=[1000000]} [] Proofs.Tryz.func89⟩
def zei (N:Nat) (a0:ByteArray) (a1:Int):Option ByteArray:=
 cond (decide ((a0.size:Int)≥a1))
  (if 0≤a1∧a1≤(a0.size:Int)then(if 0≤(0:Int)∧(0:Int)≤a1 then(some (a0.extract (0:Int).toNat a1.toNat))else none)else none)
  ((zc8 N 32 (w6 (a1-(a0.size:Int)))).bind fun r1=>if((a0.size+r1.size:Nat):Int)>IntKind.i64.max then none else some (a0++r1))
def zei.k (N:Nat):Kq:=⟨153,(cvv [Ty.str] [Ty.str,T6] (zei N)),go [zc8.k N] {} [] Proofs.Tryz.func153⟩
def zf5 (N:Nat) (a0:ByteArray) (a1:ByteArray):Option Int:=
 (zei N a0 (if(a1.size:Int)>(a0.size:Int)then(a1.size:Int)else(a0.size:Int))).bind fun r1=>
  (zei N a1 (if(a1.size:Int)>(a0.size:Int)then(a1.size:Int)else(a0.size:Int))).bind fun r2=>
  (zbb (!((Op.bytesLess r1.toList r2.toList)||(r1.toList==r2.toList)))).bind fun r3=>(zbb (Op.bytesLess r1.toList r2.toList)).bind fun r4=>
  (zc3 (w6 (r3-r4))).bind fun r5=>some r5
def zf5.k (N:Nat):Kq:=⟨151,(cvv [T6] [Ty.str,Ty.str] (zf5 N)),go [zbb.k,zc3.k,zei.k N] {} [] Proofs.Tryz.func151⟩
def znl (N:Nat) (a0:zC) (a1:zB):Option (Int × zC):=
 (zaw a1.zF).bind fun r1=>cond (a1.Op==13) ((zf5 N a1.Text a1.Other).bind fun r2=>
  some (0,{a0 with Condition:=r2})) (cond (a1.Op==12)
  ((zdh N a0 a1.Place a1.zF).bind fun r3=>cond (r3.2 !=0) (some (r3.2,a0)) ((zf5 N r3.1 a1.Text).bind fun r4=>
  some (0,{a0 with Condition:=r4}))) (cond (a1.Op==11)
  ((zdh N a0 a1.Place a1.zF).bind fun r5=>cond (r5.2 !=0) (some (r5.2,a0)) ((zdh N a0 a1.From a1.Second).bind fun r6=>cond (r6.2 !=0) (some (r6.2,a0))
  ((zf5 N r5.1 r6.1).bind fun r7=>some (0,{a0 with Condition:=r7}))))
  (cond (a1.Op==9) ((zdh N a0 a1.From a1.Second).bind fun r8=>cond (r8.2 !=0) (some (r8.2,a0)) ((zbw N a0 a1.Place r1).bind fun r9=>cond (r9.2 !=0)
  (some (r9.2,a0)) ((zei N r8.1 r1).bind fun r10=>(zbi N a0.Storage r9.1 r10).bind fun r11=>
  some (0,{a0 with Storage:=r11}))))
  ((zbw N a0 a1.Place r1).bind fun r12=>cond (r12.2 !=0) (some (r12.2,a0)) ((zei N a1.Text r1).bind fun r13=>
  (zbi N a0.Storage r12.1 r13).bind fun r14=>
  some (0,{a0 with Storage:=r14}))))))
def znl.k (N:Nat):Kq:=⟨90,(ctv [.ptr Ty.zC true [0,5,6],.val Ty.zB] [T6] [Ty.zC] [] [Ty.zC,Ty.zB] (znl N)),go [zaw.k,zdh.k N,zbw.k N,zf5.k N,zbi.k N,zei.k N] {lits:=[62],pk:=[1000000]} [] Proofs.Tryz.func90⟩
def zgv (N:Nat) (a0:zC) (a1:zN) (a2:DataType):Option (Number × Int):=
 (zdh N a0 a1 a2).bind fun r1=>cond (r1.2 !=0) (some ((⟨0,0⟩:Number),r1.2)) ((zhf N a2 r1.1).bind fun r2=>cond (r2.2.2 !=0) (some ((⟨0,0⟩:Number),1))
  (some ((⟨r2.1.N,a2.Scale⟩:Number),0)))
def zgv.k (N:Nat):Kq:=⟨154,(cvv [Ty.Number,T6] [Ty.zC,Ty.zN,Ty.DataType] (zgv N)),go [zhf.k N,zdh.k N] {} [] Proofs.Tryz.func154⟩
def zfy (a0:DataType):Option Int:=
 (zeq a0).bind fun r1=>cond (r1 !=0) (some r1) ((zb4 a0.Kind).bind fun r2=>(zbb (!r2)).bind fun r3=>some (w6 (17*r3)))
def zfy.k:Kq:=⟨222,(cvv [T6] [Ty.DataType] zfy),go [zeq.k,zb4.k,zbb.k] {} [] Proofs.Tryz.func222⟩
def zgw (a0:Int):Option ((List Int)):=
 if 0≤a0 then(if a0≤a0 then(cond (Nat.ble (a0.toNat*8) zr) (cond (Nat.ble (((List.replicate a0.toNat (0:Int)).length+([1]:List Int).length)*8) zr)
  (some ((List.replicate a0.toNat (0:Int))++([1]:List Int))) none) none)else none)else none
def zgw.k:Kq:=⟨294,(cvv [(Ty.sl T6)] [T6] zgw),go [] {lits:=[5]} [] Proofs.Tryz.func294⟩
def zjx (N:Nat) (a0:Number):Option zW:=
 (zc0 N a0.N 0).bind fun r1=>(zgw a0.Scale).bind fun r2=>some (⟨r1,r2⟩:zW)
def zjx.k (N:Nat):Kq:=⟨224,(cvv [Ty.zW] [Ty.Number] (zjx N)),go [zc0.k N,zgw.k] {} [] Proofs.Tryz.func224⟩
def za4.b2 (N:Nat) (s0:List Int) (s1:List Int) (s6:List Int) (s7:List Int) (s8:Int):Option (Stp ((List Int) × (List Int) × (List Int) × (List Int) × Int)):=
 (zc7 N s7 s1).bind fun r3001=>cond (decide (r3001≥0)) ((zdl N s7 s1).bind fun r3002=>
  if 0≤s8 then(if s8<(s6.length:Int)then((s6[s8.toNat]?).bind fun x3003=>if 0≤s8 then(if s8<(s6.length:Int)then((s6[s8.toNat]?).bind fun x3004=>
  some (.again (s0,s1,(s6.set s8.toNat (w6 (x3003+1))),r3002,s8)))else none)else none)else none)else none) (some (.leave (s0,s1,s6,s7,s8)))
def za4.r2 (N:Nat) (x:(List Int) × (List Int) × (List Int) × (List Int) × Int):=za4.b2 N x.1 x.2.1 x.2.2.1 x.2.2.2.1 x.2.2.2.2
def za4.b0 (N:Nat) (s0:List Int) (s1:List Int) (s6:List Int) (s7:List Int) (s8:Int):Option (Stp ((List Int) × (List Int) × (List Int) × (List Int) × Int)):=
 cond (decide (s8≥0)) ((idx s0 s8).bind fun x1001=>cond (Nat.ble ((([x1001]:List Int).length+s7.length)*8) zr)
  ((zcb N (([x1001]:List Int)++s7)).bind fun r1002=>(zh (za4.r2 N) N (s0,s1,s6,r1002,s8)).bind fun y1003=>
  some (.again (y1003.1,y1003.2.1,y1003.2.2.1,y1003.2.2.2.1,(w6 (y1003.2.2.2.2-1))))) none) (some (.leave (s0,s1,s6,s7,s8)))
def za4.r0 (N:Nat) (x:(List Int) × (List Int) × (List Int) × (List Int) × Int):=za4.b0 N x.1 x.2.1 x.2.2.1 x.2.2.2.1 x.2.2.2.2
def za4 (N:Nat) (a0:List Int) (a1:List Int):Option ((List Int) × (List Int)):=
 if 0≤(a0.length:Int)then(if(a0.length:Int)≤(a0.length:Int)then(cond (Nat.ble ((a0.length:Int).toNat*8) zr)
  ((zh (za4.r0 N) N (a0,a1,(List.replicate (a0.length:Int).toNat (0:Int)),[],(w6 ((a0.length:Int)-1)))).bind fun y1=>
  (zcb N y1.2.2.1).bind fun r2=>some (r2,y1.2.2.2.1)) none)else none)else none
def za4.k (N:Nat):Kq:=⟨296,(cvv [(Ty.sl T6),(Ty.sl T6)] [(Ty.sl T6),(Ty.sl T6)] (za4 N)),go [zc7.k N,zdl.k N,zcb.k N] {lits:=[25]} [(2,.plain {slots:=[(0,.val (Ty.sl T6)),(1,.val (Ty.sl T6)),(6,.own 5000006 T6),(7,.val (Ty.sl T6)),(8,.val T6)],boxes:=[]} [(Ty.sl T6),(Ty.sl T6),(Ty.sl T6),(Ty.sl T6),T6] (zh (za4.r2 N) N)),(0,.plain {slots:=[(0,.val (Ty.sl T6)),(1,.val (Ty.sl T6)),(6,.own 5000006 T6),(7,.val (Ty.sl T6)),(8,.val T6)],boxes:=[]} [(Ty.sl T6),(Ty.sl T6),(Ty.sl T6),(Ty.sl T6),T6] (zh (za4.r0 N) N))] Proofs.Tryz.func296 (hL:=⟨⟨_,_,rfl,by kernel_rfl⟩,⟨_,_,rfl,by kernel_rfl⟩,trivial⟩)⟩
def zkw (N:Nat) (a0:zW) (a1:Int) (a2:Bool):Option zL:=
 if 0≤a1 then(if a1≤a1 then(cond (Nat.ble (a1.toNat*8) zr) (cond (Nat.ble (((List.replicate a1.toNat (0:Int)).length+a0.Top.zZ.length)*8) zr)
  ((zcb N ((List.replicate a1.toNat (0:Int))++a0.Top.zZ)).bind fun r1=>(za4 N r1 a0.yM).bind fun r2=>
  (cond a2 ((zc4 N r2.2 r2.2).bind fun r3=>(zc7 N r3 a0.yM).bind fun r4=>some (decide (r4≥0))) (some false)).bind fun g5=>
  cond g5 ((zc4 N r2.1 ([1]:List Int)).bind fun r6=>(cond a0.Top.Below (some (decide ((r6.length:Int)>0))) (some false)).bind fun g7=>some (⟨g7,r6⟩:zL))
  ((cond a0.Top.Below (some (decide ((r2.1.length:Int)>0))) (some false)).bind fun g8=>some (⟨g8,r2.1⟩:zL))) none) none)else none)else none
def zkw.k (N:Nat):Kq:=⟨292,(cvv [Ty.zL] [Ty.zW,T6,Ty.bool] (zkw N)),go [zc4.k N,zc7.k N,zcb.k N,za4.k N] {pre:=[(2,[7])],lits:=[18,28,35]} [] Proofs.Tryz.func292⟩
def zdm.b0 (N:Nat) (s3:Int) (s4:Int) (b1:zL):Option (Stp (Int × Int × zL)):=
 cond (decide (s4≥0)) ((idx b1.zZ s4).bind fun x1001=>some (.again ((w6 ((w6 (10*s3))+x1001)),(w6 (s4-1)),b1)))
  (some (.leave (s3,s4,b1)))
def zdm.r0 (N:Nat) (x:Int × Int × zL):=zdm.b0 N x.1 x.2.1 x.2.2
def zdm (N:Nat) (a0:zL):Option Int:=
 (zh (zdm.r0 N) N (0,(w6 ((a0.zZ.length:Int)-1)),a0)).bind fun y1=>cond y1.2.2.Below (some (w6 (0-y1.1))) (some y1.1)
def zdm.k (N:Nat):Kq:=⟨293,(cvv [T6] [Ty.zL] (zdm N)),go [] {} [(0,.plain {slots:=[(1,.ptr 1 0),(3,.val T6),(4,.val T6)],boxes:=[(1,Ty.zL,[])]} [T6,T6,Ty.zL] (zh (zdm.r0 N) N))] Proofs.Tryz.func293 (hL:=⟨⟨_,_,rfl,by kernel_rfl⟩,trivial⟩)⟩
def zjd (N:Nat) (a0:zW) (a1:DataType) (a2:Bool):Option (Int × Int):=
 (zkw N a0 a1.Scale a2).bind fun r1=>cond (decide ((r1.zZ.length:Int)>a1.Length)) (some (0,19)) ((zdm N r1).bind fun r2=>some (r2,0))
def zjd.k (N:Nat):Kq:=⟨223,(cvv [T6,T6] [Ty.zW,Ty.DataType,Ty.bool] (zjd N)),go [zkw.k N,zdm.k N] {} [] Proofs.Tryz.func223⟩
def zgp (N:Nat) (a0:Number) (a1:DataType) (a2:Bool):Option (Value × Int):=
 (zcp a0).bind fun r1=>cond (r1 !=0) (some ((⟨0,(⟨#[]⟩:ByteArray)⟩:Value),r1)) ((zfy a1).bind fun r2=>cond (r2 !=0)
  (some ((⟨0,(⟨#[]⟩:ByteArray)⟩:Value),r2)) ((zjx N a0).bind fun r3=>(zjd N r3 a1 a2).bind fun r4=>some ((⟨r4.1,(⟨#[]⟩:ByteArray)⟩:Value),r4.2)))
def zgp.k (N:Nat):Kq:=⟨155,(cvv [Ty.Value,T6] [Ty.Number,Ty.DataType,Ty.bool] (zgp N)),go [zcp.k,zfy.k,zjd.k N,zjx.k N] {lits:=[26]} [] Proofs.Tryz.func155⟩
def zde.b0 (N:Nat) (s0:Int) (s5:List Int) (s6:Int):Option (Stp (Int × (List Int) × Int)):=
 cond (decide (s6≥0)) (if 0≤s6 then(if s6<(s5.length:Int)then((s5[s6.toNat]?).bind fun x1001=>
  some (.again ((w6 (s0.tdiv 10)),(s5.set s6.toNat (s0.tmod 10)),(w6 (s6-1)))))else none)else none) (some (.leave (s0,s5,s6)))
def zde.r0 (N:Nat) (x:Int × (List Int) × Int):=zde.b0 N x.1 x.2.1 x.2.2
def zde (N:Nat) (a0:Int) (a1:Int):Option ((List Int)):=
 if 0≤a1 then(if a1≤a1 then(cond (Nat.ble (a1.toNat*8) zr)
  ((zh (zde.r0 N) N (a0,(List.replicate a1.toNat (0:Int)),(w6 (a1-1)))).bind fun y1=>some y1.2.1) none)else none)else none
def zde.k (N:Nat):Kq:=⟨226,(ctv [.val T6,.val T6] [(Ty.sl T6)] [] [0] [T6,T6] (zde N)),go [] {} [(0,.plain {slots:=[(0,.val T6),(5,.own 5000005 T6),(6,.val T6)],boxes:=[]} [T6,(Ty.sl T6),T6] (zh (zde.r0 N) N))] Proofs.Tryz.func226 (hL:=⟨⟨_,_,rfl,by kernel_rfl⟩,trivial⟩)⟩
def za8.b1 (N:Nat) (s6:List Int) (s7:List Int) (s8:Int) (b2:DataType) (b3:Value):Option (Stp ((List Int) × (List Int) × Int × DataType × Value)):=
 cond (decide (s8<b2.Length)) (if 0≤s8 then(if s8<(s6.length:Int)then((s6[s8.toNat]?).bind fun x2001=>
  if 0≤s8 then(if s8<(s7.length:Int)then((s7[s8.toNat]?).bind fun x2002=>
  some (.again (s6,(s7.set s8.toNat (IntKind.wrap .u8 (w6 (240+x2001)))),(w6 (s8+1)),b2,b3)))else none)else none)else none)else none)
  (some (.leave (s6,s7,s8,b2,b3)))
def za8.r1 (N:Nat) (x:(List Int) × (List Int) × Int × DataType × Value):=za8.b1 N x.1 x.2.1 x.2.2.1 x.2.2.2.1 x.2.2.2.2
def za8.b3 (N:Nat) (s6:List Int) (s9:List Int) (s10:Int):Option (Stp ((List Int) × (List Int) × Int)):=
 cond (decide (s10<(s9.length:Int)))
  (if 0≤(w6 (2*s10))then(if(w6 (2*s10))<(s6.length:Int)then((s6[(w6 (2*s10)).toNat]?).bind fun x4001=>
  if 0≤(w6 ((w6 (2*s10))+1))then(if(w6 ((w6 (2*s10))+1))<(s6.length:Int)then((s6[(w6 ((w6 (2*s10))+1)).toNat]?).bind fun x4002=>
  if 0≤s10 then(if s10<(s9.length:Int)then((s9[s10.toNat]?).bind fun x4003=>
  some (.again (s6,(s9.set s10.toNat (IntKind.wrap .u8 (w6 ((w6 (16*x4001))+x4002)))),(w6 (s10+1)))))else none)else none)else none)else none)else none)else none)
  (some (.leave (s6,s9,s10)))
def za8.r3 (N:Nat) (x:(List Int) × (List Int) × Int):=za8.b3 N x.1 x.2.1 x.2.2
end
end Go.Proofs.YtbmfjmakahmclaaGreatDoor.M
