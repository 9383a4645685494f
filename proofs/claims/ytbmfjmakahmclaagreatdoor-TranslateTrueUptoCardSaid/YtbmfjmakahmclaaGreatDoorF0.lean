/- What the program's functions compute, each tied to its code: part 0. -/
import Derived.Test.YtbmfjmakahmclaaGreatDoorOrd
namespace Go.Proofs.YtbmfjmakahmclaaGreatDoor.M
open Go Go.Amx
set_option linter.unusedVariables false
set_option maxRecDepth 100000
noncomputable section
def zc8.b0 (N:Nat) (s0:Int) (s1:Int) (s5:List Int) (s6:Int):Option (Stp (Int × Int × (List Int) × Int)):=
 cond (decide (s6<s1)) (cond (Nat.ble ((s5.length+([s0]:List Int).length)*1) zr) (some (.again (s0,s1,(s5++([s0]:List Int)),(w6 (s6+1))))) none)
  (some (.leave (s0,s1,s5,s6)))
def zc8.r0 (N:Nat) (x:Int × Int × (List Int) × Int):=zc8.b0 N x.1 x.2.1 x.2.2.1 x.2.2.2
def zc8 (N:Nat) (a0:Int) (a1:Int):Option ByteArray:=
 (zh (zc8.r0 N) N (a0,a1,[],0)).bind fun y1=>some (zdg y1.2.2.1)
def zc8.k (N:Nat):Kq:=⟨61,(cvv [Ty.str] [(Ty.int .u8),T6] (zc8 N)),go [] {lits:=[14]} [(0,.plain {slots:=[(0,.val (Ty.int .u8)),(1,.val T6),(5,.own 5000005 (Ty.int .u8)),(6,.val T6)],boxes:=[]} [(Ty.int .u8),T6,(Ty.sl (Ty.int .u8)),T6] (zh (zc8.r0 N) N))] Proofs.Tryz.func61 (hL:=⟨⟨_,_,rfl,by kernel_rfl⟩,trivial⟩)⟩
def zqj (N:Nat):Option zH:=
 (zc8 N 241 16).bind fun r1=>
  some (⟨(⟨r1,([false]:List Bool)⟩:Storage),([(⟨0,0,0,0,0,(⟨false,0,0⟩:zN),(⟨false,0,0⟩:zN),(⟨2,1,0⟩:DataType),(⟨0,0,0⟩:DataType),false,false,(⟨0,0⟩:Number),(⟨#[]⟩:ByteArray),(⟨#[]⟩:ByteArray),0,0,0,0⟩:zB),(⟨0,1,0,0,0,(⟨false,0,0⟩:zN),(⟨false,0,0⟩:zN),(⟨2,1,0⟩:DataType),(⟨0,0,0⟩:DataType),false,false,(⟨0,0⟩:Number),(⟨#[]⟩:ByteArray),(⟨#[]⟩:ByteArray),0,0,0,0⟩:zB),(⟨22,1,0,0,0,(⟨false,0,0⟩:zN),(⟨false,0,0⟩:zN),(⟨0,0,0⟩:DataType),(⟨0,0,0⟩:DataType),false,false,(⟨0,0⟩:Number),(⟨#[]⟩:ByteArray),(⟨#[]⟩:ByteArray),0,0,0,0⟩:zB)]:List zB),[]⟩:zH)
def zqj.k (N:Nat):Kq:=⟨25,(cvv [Ty.zH] [] (zqj N)),go [zc8.k N] {} [] Proofs.Tryz.func25⟩
def zbf (a0:Int) (a1:Int) (a2:Int):Option Bool:=
 (cond (decide (a1≤a0)) (some (decide (a0≤a2))) (some false)).bind fun g1=>some g1
def zbf.k:Kq:=⟨107,(cvv [Ty.bool] [T6,T6,T6] zbf),go [] {} [] Proofs.Tryz.func107⟩
def zcd (a0:Bool) (a1:Int):Option Int:=
 cond a0 (some a1) (some 0)
def zcd.k:Kq:=⟨106,(cvv [T6] [Ty.bool,T6] zcd),go [] {} [] Proofs.Tryz.func106⟩
def zen (a0:zJ):Option Int:=
 (zbf a0.Registers 2 8).bind fun r1=>(zcd (!r1) 3).bind fun r2=>some r2
def zen.k:Kq:=⟨63,(cvv [T6] [Ty.zJ] zen),go [zcd.k,zbf.k] {} [] Proofs.Tryz.func63⟩
def za3.b0 (N:Nat) (s0:ByteArray) (s3:Int) (s6:Int) (s7:Int):Option (Stp (ByteArray × Int × Int × Int)):=
 cond (decide (s7<s6)) ((zil s0 s7).bind fun x1001=>some (.again (s0,(orI .i64 (w6 (s3*2^(min (8:Int).toNat 64)))
  (w6 (x1001.toNat:Int))),s6,(w6 (s7+1))))) (some (.leave (s0,s3,s6,s7)))
def za3.r0 (N:Nat) (x:ByteArray × Int × Int × Int):=za3.b0 N x.1 x.2.1 x.2.2.1 x.2.2.2
def za3 (N:Nat) (a0:ByteArray):Option Int:=
 (zh (za3.r0 N) N (a0,0,(a0.size:Int),0)).bind fun y1=>some y1.2.1
def za3.k (N:Nat):Kq:=⟨275,(cvv [T6] [Ty.str] (za3 N)),go [] {} [(0,.plain {slots:=[(0,.val Ty.str),(3,.val T6),(6,.val T6),(7,.val T6)],boxes:=[]} [Ty.str,T6,T6,T6] (zh (za3.r0 N) N))] Proofs.Tryz.func275 (hL:=⟨⟨_,_,rfl,by kernel_rfl⟩,trivial⟩)⟩
def ze7 (a0:Int) (a1:Int) (a2:Int):Option Bool:=
 (cond (decide (a1≤a0)) (some (decide (a0≤a2))) (some false)).bind fun g1=>some g1
def ze7.k:Kq:=⟨186,(cvv [Ty.bool] [T6,T6,T6] ze7),go [] {} [] Proofs.Tryz.func186⟩
def zem (a0:Pointer):Option Int:=
 (ze7 a0.Kind 0 2).bind fun r1=>cond (!r1) (some 4) (((ze7 a0.Address.yF 0 1099511627775).bind fun r2=>cond (!r2) (some (!r2))
  ((ze7 a0.Address.Offset 0 16777215).bind fun r3=>cond (!r3) (some (!r3)) ((ze7 a0.Authority 0 1023).bind fun r4=>some (!r4)))).bind fun q5=>
  cond q5 (some 3) ((cond (a0.Authority !=0) (some (a0.Kind !=1)) (some false)).bind fun g6=>cond g6 (some 5) (some 0)))
def zem.k:Kq:=⟨276,(cvv [T6] [Ty.Pointer] zem),go [ze7.k] {bj:=[8]} [] Proofs.Tryz.func276⟩
def zfs (N:Nat) (a0:ByteArray):Option (Pointer × Int):=
 cond ((a0.size:Int) !=16) (some ((⟨0,(⟨0,0⟩:Address),0⟩:Pointer),18)) ((zil a0 1).bind fun x1=>cond ((x1.toNat:Int) !=0)
  (some ((⟨0,(⟨0,0⟩:Address),0⟩:Pointer),5)) ((zil a0 0).bind fun x2=>
  if 0≤(4:Int)∧(4:Int)≤(a0.size:Int)then(if 0≤(2:Int)∧(2:Int)≤(4:Int)then((za3 N (a0.extract (2:Int).toNat (4:Int).toNat)).bind fun r3=>
  if 0≤(10:Int)∧(10:Int)≤(a0.size:Int)then(if 0≤(4:Int)∧(4:Int)≤(10:Int)then((za3 N (a0.extract (4:Int).toNat (10:Int).toNat)).bind fun r4=>
  if 0≤(10:Int)∧(10:Int)≤(a0.size:Int)then((za3 N (a0.extract (10:Int).toNat a0.size)).bind fun r5=>
  (zem (⟨(w6 (x2.toNat:Int)),(⟨r4,r5⟩:Address),r3⟩:Pointer)).bind fun r6=>cond (r6 !=0)
  (some ((⟨0,(⟨0,0⟩:Address),0⟩:Pointer),r6))
  (some ((⟨(w6 (x2.toNat:Int)),(⟨r4,r5⟩:Address),r3⟩:Pointer),0)))else none)else none)else none)else none)else none))
def zfs.k (N:Nat):Kq:=⟨200,(cvv [Ty.Pointer,T6] [Ty.str] (zfs N)),go [za3.k N,zem.k] {} [] Proofs.Tryz.func200⟩
def zt.b1 (N:Nat) (s27:List Bool) (s28:Int) (s29:Int) (b1:Storage):Option (Round (Int × Int) ((List Bool) × Int × Int × Storage)):=
 cond (decide (s29<s28)) ((idx s27 s29).bind fun x2001=>cond (!x2001) (some (.again (s27,s28,(w6 (s29+1)),b1)))
  (if 0≤(w6 ((w6 (s29*16))+16))∧(w6 ((w6 (s29*16))+16))≤(b1.Bytes.size:Int)then(if 0≤(w6 (s29*16))∧(w6 (s29*16))≤(w6 ((w6 (s29*16))+16))then((zfs N (b1.Bytes.extract (w6 (s29*16)).toNat (w6 ((w6 (s29*16))+16)).toNat)).bind fun r2002=>
  cond (r2002.2 !=0) (some (.result (s29,22))) (some (.again (s27,s28,(w6 (s29+1)),b1))))else none)else none)) (some (.leave (s27,s28,s29,b1)))
def zt.r1 (N:Nat) (x:(List Bool) × Int × Int × Storage):=zt.b1 N x.1 x.2.1 x.2.2.1 x.2.2.2
def zt (N:Nat) (a0:Storage):Option (Int × Int):=
 cond (decide ((a0.Bytes.size:Int)>1024)) (some (0,2)) (cond (((a0.Bytes.size:Int).tmod 16) !=0) (some (0,18))
  (cond ((a0.Tags.length:Int) !=(w6 ((a0.Bytes.size:Int).tdiv 16))) (some (0,6))
  ((zo (zt.r1 N) N (a0.Tags,(a0.Tags.length:Int),0,a0)).bind fun z2=>zbu z2 (fun z=>some z) (fun y1=>some ((y1.2.2.2.Tags.length:Int),0)))))
def zt.k (N:Nat):Kq:=⟨129,(cvv [T6,T6] [Ty.Storage] (zt N)),go [zfs.k N] {} [(1,.rets {slots:=[(1,.ptr 1 0),(27,.val (Ty.sl Ty.bool)),(28,.val T6),(29,.val T6)],boxes:=[(1,Ty.Storage,[])]} [(Ty.sl Ty.bool),T6,T6,Ty.Storage] (zo (zt.r1 N) N))] Proofs.Tryz.func129 (hL:=⟨⟨_,_,rfl,by kernel_rfl⟩,trivial⟩)⟩
def zby.b0 (N:Nat) (s0:List Bool) (s1:Bool) (s7:Int) (s8:Int):Option (Round Int ((List Bool) × Bool × Int × Int)):=
 cond (decide (s8<s7)) ((idx s0 s8).bind fun x1001=>cond (s1==x1001) (some (.result s8)) (some (.again (s0,s1,s7,(w6 (s8+1))))))
  (some (.leave (s0,s1,s7,s8)))
def zby.r0 (N:Nat) (x:(List Bool) × Bool × Int × Int):=zby.b0 N x.1 x.2.1 x.2.2.1 x.2.2.2
def zby (N:Nat) (a0:List Bool) (a1:Bool):Option Int:=
 (zo (zby.r0 N) N (a0,a1,(a0.length:Int),0)).bind fun z2=>zbu z2 (fun z=>some z) (fun y1=>some (-1))
def zby.k (N:Nat):Kq:=⟨98,(cvv [T6] [(Ty.sl Ty.bool),Ty.bool] (zby N)),go [] {} [(0,.rets {slots:=[(0,.val (Ty.sl Ty.bool)),(1,.val Ty.bool),(7,.val T6),(8,.val T6)],boxes:=[]} [(Ty.sl Ty.bool),Ty.bool,T6,T6] (zo (zby.r0 N) N))] Proofs.Tryz.func98 (hL:=⟨⟨_,_,rfl,by kernel_rfl⟩,trivial⟩)⟩
def zf7 (N:Nat) (a0:List Bool) (a1:Bool):Option Bool:=
 (zby N a0 a1).bind fun r1=>some (decide (r1≥0))
def zf7.k (N:Nat):Kq:=⟨131,(cvv [Ty.bool] [(Ty.sl Ty.bool),Ty.bool] (zf7 N)),go [zby.k N] {} [] Proofs.Tryz.func131⟩
def za1.b0 (N:Nat) (s5:List Int) (s6:Int) (s7:Int):Option (Round Int ((List Int) × Int × Int)):=
 cond (decide (s7<s6)) ((idx s5 s7).bind fun x1001=>cond (x1001 !=0) (some (.result x1001)) (some (.again (s5,s6,(w6 (s7+1)))))) (some (.leave (s5,s6,s7)))
def za1.r0 (N:Nat) (x:(List Int) × Int × Int):=za1.b0 N x.1 x.2.1 x.2.2
def za1 (N:Nat) (a0:List Int):Option Int:=
 (zo (za1.r0 N) N (a0,(a0.length:Int),0)).bind fun z2=>zbu z2 (fun z=>some z) (fun y1=>some 0)
def za1.k (N:Nat):Kq:=⟨130,(cvv [T6] [(Ty.sl T6)] (za1 N)),go [] {} [(0,.rets {slots:=[(5,.val (Ty.sl T6)),(6,.val T6),(7,.val T6)],boxes:=[]} [(Ty.sl T6),T6,T6] (zo (za1.r0 N) N))] Proofs.Tryz.func130 (hL:=⟨⟨_,_,rfl,by kernel_rfl⟩,trivial⟩)⟩
def zb5 (a0:zB):Option zU:=
 (idx z9g a0.Op).bind fun x1=>(cond (a0.Op==4) (some a0.zP) (some false)).bind fun g2=>
  cond g2 (some (⟨(orI .i64 (orI .i64 (z8a .i64 x1.fields 4) 8) 64),x1.types⟩:zU)) (some x1)
def zb5.k:Kq:=⟨204,(cvv [Ty.zU] [Ty.zB] zb5),go [] {} [] Proofs.Tryz.func204⟩
def zcq (a0:Int) (a1:Int) (a2:Int):Option Int:=
 cond ((zj .i64 a2 a0)==0) (some 0) (some a1)
def zcq.k:Kq:=⟨277,(ctv [.val T6,.ptr T6 true [],.ptr T6 false []] [] [T6] [] [T6,T6,T6] zcq),go [] {ro:=[1000001],pk:=[1000000,1000001]} [] Proofs.Tryz.func277⟩
def zh8 (a0:zN) (a1:Bool):Option zN:=
 cond (!a1) (some (⟨false,0,0⟩:zN)) (cond (!a0.Based) (some (⟨a0.Based,0,a0.Offset⟩:zN)) (some a0))
def zh8.k:Kq:=⟨278,(cvv [Ty.zN] [Ty.zN,Ty.bool] zh8),go [] {} [] Proofs.Tryz.func278⟩
def zkh (a0:zB):Option zB:=
 (zb5 a0).bind fun r1=>(zcq 1 a0.R r1.fields).bind fun r2=>(zcq 2 a0.A r1.fields).bind fun r3=>
  (zcq 4 a0.B r1.fields).bind fun r4=>(zcq 2048 a0.Mask r1.fields).bind fun r5=>(zcq 4096 a0.Target r1.fields).bind fun r6=>
  (zcq 8192 a0.Pointer r1.fields).bind fun r7=>(zcq 16384 a0.Source r1.fields).bind fun r8=>
  (zcq 32768 a0.zM r1.fields).bind fun r9=>(zh8 a0.Place ((zj .i64 r1.fields 8) !=0)).bind fun r10=>
  (zh8 a0.From ((zj .i64 r1.fields 16) !=0)).bind fun r11=>cond ((zj .i64 r1.fields 32)==0) (cond ((zj .i64 r1.fields 64)==0)
  (cond ((zj .i64 r1.fields 256)==0) (cond ((zj .i64 r1.fields 512)==0) (cond ((zj .i64 r1.fields 1024)==0) ((cond a0.Half (some ((zj .i64 r1.fields 128) !=0))
  (some false)).bind fun g12=>(cond a0.zP (some (a0.Op==4)) (some false)).bind fun g13=>
  some (⟨a0.Op,r2,r3,r4,r9,r10,r11,(⟨0,0,0⟩:DataType),(⟨0,0,0⟩:DataType),g12,g13,(⟨0,0⟩:Number),(⟨#[]⟩:ByteArray),(⟨#[]⟩:ByteArray),r5,r6,r7,r8⟩:zB))
  ((cond a0.Half (some ((zj .i64 r1.fields 128) !=0)) (some false)).bind fun g14=>(cond a0.zP (some (a0.Op==4)) (some false)).bind fun g15=>
  some (⟨a0.Op,r2,r3,r4,r9,r10,r11,(⟨0,0,0⟩:DataType),(⟨0,0,0⟩:DataType),g14,g15,(⟨0,0⟩:Number),(⟨#[]⟩:ByteArray),a0.Other,r5,r6,r7,r8⟩:zB)))
  (cond ((zj .i64 r1.fields 1024)==0) ((cond a0.Half (some ((zj .i64 r1.fields 128) !=0)) (some false)).bind fun g16=>(cond a0.zP (some (a0.Op==4))
  (some false)).bind fun g17=>
  some (⟨a0.Op,r2,r3,r4,r9,r10,r11,(⟨0,0,0⟩:DataType),(⟨0,0,0⟩:DataType),g16,g17,(⟨0,0⟩:Number),a0.Text,(⟨#[]⟩:ByteArray),r5,r6,r7,r8⟩:zB))
  ((cond a0.Half (some ((zj .i64 r1.fields 128) !=0)) (some false)).bind fun g18=>(cond a0.zP (some (a0.Op==4)) (some false)).bind fun g19=>
  some (⟨a0.Op,r2,r3,r4,r9,r10,r11,(⟨0,0,0⟩:DataType),(⟨0,0,0⟩:DataType),g18,g19,(⟨0,0⟩:Number),a0.Text,a0.Other,r5,r6,r7,r8⟩:zB))))
  (cond ((zj .i64 r1.fields 512)==0) (cond ((zj .i64 r1.fields 1024)==0) ((cond a0.Half (some ((zj .i64 r1.fields 128) !=0)) (some false)).bind fun g20=>
  (cond a0.zP (some (a0.Op==4)) (some false)).bind fun g21=>
  some (⟨a0.Op,r2,r3,r4,r9,r10,r11,(⟨0,0,0⟩:DataType),(⟨0,0,0⟩:DataType),g20,g21,a0.Number,(⟨#[]⟩:ByteArray),(⟨#[]⟩:ByteArray),r5,r6,r7,r8⟩:zB))
  ((cond a0.Half (some ((zj .i64 r1.fields 128) !=0)) (some false)).bind fun g22=>(cond a0.zP (some (a0.Op==4)) (some false)).bind fun g23=>
  some (⟨a0.Op,r2,r3,r4,r9,r10,r11,(⟨0,0,0⟩:DataType),(⟨0,0,0⟩:DataType),g22,g23,a0.Number,(⟨#[]⟩:ByteArray),a0.Other,r5,r6,r7,r8⟩:zB)))
  (cond ((zj .i64 r1.fields 1024)==0) ((cond a0.Half (some ((zj .i64 r1.fields 128) !=0)) (some false)).bind fun g24=>(cond a0.zP (some (a0.Op==4))
  (some false)).bind fun g25=>
  some (⟨a0.Op,r2,r3,r4,r9,r10,r11,(⟨0,0,0⟩:DataType),(⟨0,0,0⟩:DataType),g24,g25,a0.Number,a0.Text,(⟨#[]⟩:ByteArray),r5,r6,r7,r8⟩:zB))
  ((cond a0.Half (some ((zj .i64 r1.fields 128) !=0)) (some false)).bind fun g26=>(cond a0.zP (some (a0.Op==4)) (some false)).bind fun g27=>
  some (⟨a0.Op,r2,r3,r4,r9,r10,r11,(⟨0,0,0⟩:DataType),(⟨0,0,0⟩:DataType),g26,g27,a0.Number,a0.Text,a0.Other,r5,r6,r7,r8⟩:zB)))))
  (cond ((zj .i64 r1.fields 256)==0) (cond ((zj .i64 r1.fields 512)==0) (cond ((zj .i64 r1.fields 1024)==0) ((cond a0.Half (some ((zj .i64 r1.fields 128) !=0))
  (some false)).bind fun g28=>(cond a0.zP (some (a0.Op==4)) (some false)).bind fun g29=>
  some (⟨a0.Op,r2,r3,r4,r9,r10,r11,(⟨0,0,0⟩:DataType),a0.Second,g28,g29,(⟨0,0⟩:Number),(⟨#[]⟩:ByteArray),(⟨#[]⟩:ByteArray),r5,r6,r7,r8⟩:zB))
  ((cond a0.Half (some ((zj .i64 r1.fields 128) !=0)) (some false)).bind fun g30=>(cond a0.zP (some (a0.Op==4)) (some false)).bind fun g31=>
  some (⟨a0.Op,r2,r3,r4,r9,r10,r11,(⟨0,0,0⟩:DataType),a0.Second,g30,g31,(⟨0,0⟩:Number),(⟨#[]⟩:ByteArray),a0.Other,r5,r6,r7,r8⟩:zB)))
  (cond ((zj .i64 r1.fields 1024)==0) ((cond a0.Half (some ((zj .i64 r1.fields 128) !=0)) (some false)).bind fun g32=>(cond a0.zP (some (a0.Op==4))
  (some false)).bind fun g33=>
  some (⟨a0.Op,r2,r3,r4,r9,r10,r11,(⟨0,0,0⟩:DataType),a0.Second,g32,g33,(⟨0,0⟩:Number),a0.Text,(⟨#[]⟩:ByteArray),r5,r6,r7,r8⟩:zB))
  ((cond a0.Half (some ((zj .i64 r1.fields 128) !=0)) (some false)).bind fun g34=>(cond a0.zP (some (a0.Op==4)) (some false)).bind fun g35=>
  some (⟨a0.Op,r2,r3,r4,r9,r10,r11,(⟨0,0,0⟩:DataType),a0.Second,g34,g35,(⟨0,0⟩:Number),a0.Text,a0.Other,r5,r6,r7,r8⟩:zB))))
  (cond ((zj .i64 r1.fields 512)==0) (cond ((zj .i64 r1.fields 1024)==0) ((cond a0.Half (some ((zj .i64 r1.fields 128) !=0)) (some false)).bind fun g36=>
  (cond a0.zP (some (a0.Op==4)) (some false)).bind fun g37=>
  some (⟨a0.Op,r2,r3,r4,r9,r10,r11,(⟨0,0,0⟩:DataType),a0.Second,g36,g37,a0.Number,(⟨#[]⟩:ByteArray),(⟨#[]⟩:ByteArray),r5,r6,r7,r8⟩:zB))
  ((cond a0.Half (some ((zj .i64 r1.fields 128) !=0)) (some false)).bind fun g38=>(cond a0.zP (some (a0.Op==4)) (some false)).bind fun g39=>
  some (⟨a0.Op,r2,r3,r4,r9,r10,r11,(⟨0,0,0⟩:DataType),a0.Second,g38,g39,a0.Number,(⟨#[]⟩:ByteArray),a0.Other,r5,r6,r7,r8⟩:zB)))
  (cond ((zj .i64 r1.fields 1024)==0) ((cond a0.Half (some ((zj .i64 r1.fields 128) !=0)) (some false)).bind fun g40=>(cond a0.zP (some (a0.Op==4))
  (some false)).bind fun g41=>
  some (⟨a0.Op,r2,r3,r4,r9,r10,r11,(⟨0,0,0⟩:DataType),a0.Second,g40,g41,a0.Number,a0.Text,(⟨#[]⟩:ByteArray),r5,r6,r7,r8⟩:zB))
  ((cond a0.Half (some ((zj .i64 r1.fields 128) !=0)) (some false)).bind fun g42=>(cond a0.zP (some (a0.Op==4)) (some false)).bind fun g43=>
  some (⟨a0.Op,r2,r3,r4,r9,r10,r11,(⟨0,0,0⟩:DataType),a0.Second,g42,g43,a0.Number,a0.Text,a0.Other,r5,r6,r7,r8⟩:zB))))))
  (cond ((zj .i64 r1.fields 64)==0) (cond ((zj .i64 r1.fields 256)==0) (cond ((zj .i64 r1.fields 512)==0) (cond ((zj .i64 r1.fields 1024)==0)
  ((cond a0.Half (some ((zj .i64 r1.fields 128) !=0)) (some false)).bind fun g44=>(cond a0.zP (some (a0.Op==4)) (some false)).bind fun g45=>
  some (⟨a0.Op,r2,r3,r4,r9,r10,r11,a0.zF,(⟨0,0,0⟩:DataType),g44,g45,(⟨0,0⟩:Number),(⟨#[]⟩:ByteArray),(⟨#[]⟩:ByteArray),r5,r6,r7,r8⟩:zB))
  ((cond a0.Half (some ((zj .i64 r1.fields 128) !=0)) (some false)).bind fun g46=>(cond a0.zP (some (a0.Op==4)) (some false)).bind fun g47=>
  some (⟨a0.Op,r2,r3,r4,r9,r10,r11,a0.zF,(⟨0,0,0⟩:DataType),g46,g47,(⟨0,0⟩:Number),(⟨#[]⟩:ByteArray),a0.Other,r5,r6,r7,r8⟩:zB)))
  (cond ((zj .i64 r1.fields 1024)==0) ((cond a0.Half (some ((zj .i64 r1.fields 128) !=0)) (some false)).bind fun g48=>(cond a0.zP (some (a0.Op==4))
  (some false)).bind fun g49=>
  some (⟨a0.Op,r2,r3,r4,r9,r10,r11,a0.zF,(⟨0,0,0⟩:DataType),g48,g49,(⟨0,0⟩:Number),a0.Text,(⟨#[]⟩:ByteArray),r5,r6,r7,r8⟩:zB))
  ((cond a0.Half (some ((zj .i64 r1.fields 128) !=0)) (some false)).bind fun g50=>(cond a0.zP (some (a0.Op==4)) (some false)).bind fun g51=>
  some (⟨a0.Op,r2,r3,r4,r9,r10,r11,a0.zF,(⟨0,0,0⟩:DataType),g50,g51,(⟨0,0⟩:Number),a0.Text,a0.Other,r5,r6,r7,r8⟩:zB))))
  (cond ((zj .i64 r1.fields 512)==0) (cond ((zj .i64 r1.fields 1024)==0) ((cond a0.Half (some ((zj .i64 r1.fields 128) !=0)) (some false)).bind fun g52=>
  (cond a0.zP (some (a0.Op==4)) (some false)).bind fun g53=>
  some (⟨a0.Op,r2,r3,r4,r9,r10,r11,a0.zF,(⟨0,0,0⟩:DataType),g52,g53,a0.Number,(⟨#[]⟩:ByteArray),(⟨#[]⟩:ByteArray),r5,r6,r7,r8⟩:zB))
  ((cond a0.Half (some ((zj .i64 r1.fields 128) !=0)) (some false)).bind fun g54=>(cond a0.zP (some (a0.Op==4)) (some false)).bind fun g55=>
  some (⟨a0.Op,r2,r3,r4,r9,r10,r11,a0.zF,(⟨0,0,0⟩:DataType),g54,g55,a0.Number,(⟨#[]⟩:ByteArray),a0.Other,r5,r6,r7,r8⟩:zB)))
  (cond ((zj .i64 r1.fields 1024)==0) ((cond a0.Half (some ((zj .i64 r1.fields 128) !=0)) (some false)).bind fun g56=>(cond a0.zP (some (a0.Op==4))
  (some false)).bind fun g57=>
  some (⟨a0.Op,r2,r3,r4,r9,r10,r11,a0.zF,(⟨0,0,0⟩:DataType),g56,g57,a0.Number,a0.Text,(⟨#[]⟩:ByteArray),r5,r6,r7,r8⟩:zB))
  ((cond a0.Half (some ((zj .i64 r1.fields 128) !=0)) (some false)).bind fun g58=>(cond a0.zP (some (a0.Op==4)) (some false)).bind fun g59=>
  some (⟨a0.Op,r2,r3,r4,r9,r10,r11,a0.zF,(⟨0,0,0⟩:DataType),g58,g59,a0.Number,a0.Text,a0.Other,r5,r6,r7,r8⟩:zB)))))
  (cond ((zj .i64 r1.fields 256)==0) (cond ((zj .i64 r1.fields 512)==0) (cond ((zj .i64 r1.fields 1024)==0) ((cond a0.Half (some ((zj .i64 r1.fields 128) !=0))
  (some false)).bind fun g60=>(cond a0.zP (some (a0.Op==4)) (some false)).bind fun g61=>
  some (⟨a0.Op,r2,r3,r4,r9,r10,r11,a0.zF,a0.Second,g60,g61,(⟨0,0⟩:Number),(⟨#[]⟩:ByteArray),(⟨#[]⟩:ByteArray),r5,r6,r7,r8⟩:zB))
  ((cond a0.Half (some ((zj .i64 r1.fields 128) !=0)) (some false)).bind fun g62=>(cond a0.zP (some (a0.Op==4)) (some false)).bind fun g63=>
  some (⟨a0.Op,r2,r3,r4,r9,r10,r11,a0.zF,a0.Second,g62,g63,(⟨0,0⟩:Number),(⟨#[]⟩:ByteArray),a0.Other,r5,r6,r7,r8⟩:zB)))
  (cond ((zj .i64 r1.fields 1024)==0) ((cond a0.Half (some ((zj .i64 r1.fields 128) !=0)) (some false)).bind fun g64=>(cond a0.zP (some (a0.Op==4))
  (some false)).bind fun g65=>
  some (⟨a0.Op,r2,r3,r4,r9,r10,r11,a0.zF,a0.Second,g64,g65,(⟨0,0⟩:Number),a0.Text,(⟨#[]⟩:ByteArray),r5,r6,r7,r8⟩:zB))
  ((cond a0.Half (some ((zj .i64 r1.fields 128) !=0)) (some false)).bind fun g66=>(cond a0.zP (some (a0.Op==4)) (some false)).bind fun g67=>
  some (⟨a0.Op,r2,r3,r4,r9,r10,r11,a0.zF,a0.Second,g66,g67,(⟨0,0⟩:Number),a0.Text,a0.Other,r5,r6,r7,r8⟩:zB))))
  (cond ((zj .i64 r1.fields 512)==0) (cond ((zj .i64 r1.fields 1024)==0) ((cond a0.Half (some ((zj .i64 r1.fields 128) !=0)) (some false)).bind fun g68=>
  (cond a0.zP (some (a0.Op==4)) (some false)).bind fun g69=>
  some (⟨a0.Op,r2,r3,r4,r9,r10,r11,a0.zF,a0.Second,g68,g69,a0.Number,(⟨#[]⟩:ByteArray),(⟨#[]⟩:ByteArray),r5,r6,r7,r8⟩:zB))
  ((cond a0.Half (some ((zj .i64 r1.fields 128) !=0)) (some false)).bind fun g70=>(cond a0.zP (some (a0.Op==4)) (some false)).bind fun g71=>
  some (⟨a0.Op,r2,r3,r4,r9,r10,r11,a0.zF,a0.Second,g70,g71,a0.Number,(⟨#[]⟩:ByteArray),a0.Other,r5,r6,r7,r8⟩:zB)))
  (cond ((zj .i64 r1.fields 1024)==0) ((cond a0.Half (some ((zj .i64 r1.fields 128) !=0)) (some false)).bind fun g72=>(cond a0.zP (some (a0.Op==4))
  (some false)).bind fun g73=>some (⟨a0.Op,r2,r3,r4,r9,r10,r11,a0.zF,a0.Second,g72,g73,a0.Number,a0.Text,(⟨#[]⟩:ByteArray),r5,r6,r7,r8⟩:zB))
  ((cond a0.Half (some ((zj .i64 r1.fields 128) !=0)) (some false)).bind fun g74=>(cond a0.zP (some (a0.Op==4)) (some false)).bind fun g75=>
  some (⟨a0.Op,r2,r3,r4,r9,r10,r11,a0.zF,a0.Second,g74,g75,a0.Number,a0.Text,a0.Other,r5,r6,r7,r8⟩:zB))))))
def zkh.k:Kq:=⟨201,(cvv [Ty.zB] [Ty.zB] zkh),go [zb5.k,zcq.k,zh8.k] {} [] Proofs.Tryz.func201⟩
def zio (a0:zJ) (a1:zB):Option Bool:=
 (cond (a1.Op !=7) (some true) (some a0.yK)).bind fun g1=>(cond g1 ((cond (a1.Op !=4) (some true) (some (!a1.zP))).bind fun g2=>(cond g2 (some true)
  (some a0.yH)).bind fun g3=>some g3) (some false)).bind fun g4=>some g4
def zio.k:Kq:=⟨202,(cvv [Ty.bool] [Ty.zJ,Ty.zB] zio),go [] {} [] Proofs.Tryz.func202⟩
def zfk (a0:Int) (a1:Int) (a2:Int):Option Bool:=
 (cond (decide (a1≤a0)) (some (decide (a0≤a2))) (some false)).bind fun g1=>some g1
def zfk.k:Kq:=⟨228,(cvv [Ty.bool] [T6,T6,T6] zfk),go [] {} [] Proofs.Tryz.func228⟩
def zb9 (a0:Bool) (a1:Int):Option Int:=
 cond a0 (some a1) (some 0)
def zb9.k:Kq:=⟨230,(cvv [T6] [Ty.bool,T6] zb9),go [] {} [] Proofs.Tryz.func230⟩
def za5.b0 (N:Nat) (s5:List Int) (s6:Int) (s7:Int):Option (Round Int ((List Int) × Int × Int)):=
 cond (decide (s7<s6)) ((idx s5 s7).bind fun x1001=>cond (x1001 !=0) (some (.result x1001)) (some (.again (s5,s6,(w6 (s7+1)))))) (some (.leave (s5,s6,s7)))
def za5.r0 (N:Nat) (x:(List Int) × Int × Int):=za5.b0 N x.1 x.2.1 x.2.2
def za5 (N:Nat) (a0:List Int):Option Int:=
 (zo (za5.r0 N) N (a0,(a0.length:Int),0)).bind fun z2=>zbu z2 (fun z=>some z) (fun y1=>some 0)
def za5.k (N:Nat):Kq:=⟨229,(cvv [T6] [(Ty.sl T6)] (za5 N)),go [] {} [(0,.rets {slots:=[(5,.val (Ty.sl T6)),(6,.val T6),(7,.val T6)],boxes:=[]} [(Ty.sl T6),T6,T6] (zo (za5.r0 N) N))] Proofs.Tryz.func229 (hL:=⟨⟨_,_,rfl,by kernel_rfl⟩,trivial⟩)⟩
def zcu (N:Nat) (a0:DataType):Option Int:=
 cond (a0.Kind==0) ((zfk a0.Length 1 256).bind fun r1=>(zb9 (!r1) 18).bind fun r2=>(zb9 (!(a0.Scale==0)) 3).bind fun r3=>
  (za5 N ([r2,r3]:List Int)).bind fun r4=>some r4) ((cond (a0.Kind==1) (some (a0.Kind==1)) (some (a0.Kind==2))).bind fun q5=>
  cond q5 ((zfk a0.Length 1 15).bind fun r6=>(zfk a0.Scale 0 a0.Length).bind fun r7=>(zb9 (!r6) 18).bind fun r8=>(zb9 (!r7) 3).bind fun r9=>
  (za5 N ([r8,r9]:List Int)).bind fun r10=>some r10) (cond (a0.Kind==3) ((cond (a0.Length==4) (some true) (some (a0.Length==9))).bind fun g11=>
  (zfk a0.Scale 0 a0.Length).bind fun r12=>(zb9 (!g11) 18).bind fun r13=>(zb9 (!r12) 3).bind fun r14=>
  (za5 N ([r13,r14]:List Int)).bind fun r15=>some r15) (cond (a0.Kind==4) ((zb9 (!(a0.Length==0)) 18).bind fun r16=>
  (zb9 (!(a0.Scale==0)) 3).bind fun r17=>(za5 N ([r16,r17]:List Int)).bind fun r18=>some r18) (some 4))))
def zcu.k (N:Nat):Kq:=⟨159,(cvv [T6] [Ty.DataType] (zcu N)),go [zfk.k,za5.k N,zb9.k] {lits:=[48,51,52],bj:=[15]} [] Proofs.Tryz.func159⟩
def zf2 (N:Nat) (a0:DataType) (a1:Int):Option Int:=
 (cond (a0.Kind==4) (some true) ((cond (a1==1) (some (a0.Kind==0)) (some false)).bind fun g1=>some g1)).bind fun g2=>(cond g2 (some true) ((cond (a1==2)
  (some (a0.Kind !=0)) (some false)).bind fun g3=>some g3)).bind fun g4=>(zcu N a0).bind fun r5=>(zcd g4 17).bind fun r6=>
  (za1 N ([r5,r6]:List Int)).bind fun r7=>some r7
def zf2.k (N:Nat):Kq:=⟨279,(cvv [T6] [Ty.DataType,T6] (zf2 N)),go [zcd.k,za1.k N,zcu.k N] {lits:=[28,30,31]} [] Proofs.Tryz.func279⟩
def zhn (N:Nat) (a0:zB) (a1:zU):Option Int:=
 cond ((zj .i64 a1.fields 32) !=0) ((zf2 N a0.zF a1.types).bind fun r1=>cond (r1 !=0) (some r1) (cond ((zj .i64 a1.fields 64) !=0)
  ((zf2 N a0.Second a1.types).bind fun r2=>some r2) (some 0))) (cond ((zj .i64 a1.fields 64) !=0) ((zf2 N a0.Second a1.types).bind fun r3=>some r3)
  (some 0))
def zhn.k (N:Nat):Kq:=⟨203,(cvv [T6] [Ty.zB,Ty.zU] (zhn N)),go [zf2.k N] {} [] Proofs.Tryz.func203⟩
def zah.b0 (N:Nat) (s3:List Int) (s4:Int) (s16:List Int) (s17:Int) (s18:Int):Option (Stp ((List Int) × Int × (List Int) × Int × Int)):=
 cond (decide (s18<s17)) (if 0≤s18 then(if s18<(s16.length:Int)then((s16[s18.toNat]?).bind fun x1001=>
  if s18<0 then none else cond ((zj .i64 s4 (w6 (1*2^(min s18.toNat 64)))) !=0) (cond (Nat.ble ((s3.length+([x1001]:List Int).length)*8) zr)
  (some (.again ((s3++([x1001]:List Int)),s4,s16,s17,(w6 (s18+1))))) none)
  (some (.again (s3,s4,s16,s17,(w6 (s18+1))))))else none)else none) (some (.leave (s3,s4,s16,s17,s18)))
def zah.r0 (N:Nat) (x:(List Int) × Int × (List Int) × Int × Int):=zah.b0 N x.1 x.2.1 x.2.2.1 x.2.2.2.1 x.2.2.2.2
def zah (N:Nat) (a0:zB):Option ((List Int)):=
 (zb5 a0).bind fun r1=>
  (zh (zah.r0 N) N ([],r1.fields,([a0.R,a0.A,a0.B]:List Int),(([a0.R,a0.A,a0.B]:List Int).length:Int),0)).bind fun y2=>some y2.1
def zah.k (N:Nat):Kq:=⟨281,(cvv [(Ty.sl T6)] [Ty.zB] (zah N)),go [zb5.k] {lits:=[30]} [(0,.plain {slots:=[(3,.own 5000003 T6),(4,.val T6),(16,.own 5000016 T6),(17,.val T6),(18,.val T6)],boxes:=[]} [(Ty.sl T6),T6,(Ty.sl T6),T6,T6] (zh (zah.r0 N) N))] Proofs.Tryz.func281 (hL:=⟨⟨_,_,rfl,by kernel_rfl⟩,trivial⟩)⟩
def zgs (a0:Int) (a1:zJ):Option Bool:=
 (zbf a0 0 (w6 (a1.Registers-1))).bind fun r1=>some (!r1)
def zgs.k:Kq:=⟨282,(ctv [.val T6,.ptr Ty.zJ false []] [Ty.bool] [] [] [T6,Ty.zJ] zgs),go [zbf.k] {ro:=[1000000],pk:=[1000000]} [] Proofs.Tryz.func282⟩
def zap.b0 (N:Nat) (s0:List Int) (s7:Int) (s8:Int) (b1000000:zJ):Option (Round Int ((List Int) × Int × Int × zJ)):=
 cond (decide (s8<s7)) ((idx s0 s8).bind fun x1001=>(zgs x1001 b1000000).bind fun r1002=>cond r1002 (some (.result s8))
  (some (.again (s0,s7,(w6 (s8+1)),b1000000)))) (some (.leave (s0,s7,s8,b1000000)))
def zap.r0 (N:Nat) (x:(List Int) × Int × Int × zJ):=zap.b0 N x.1 x.2.1 x.2.2.1 x.2.2.2
def zap (N:Nat) (a0:List Int) (a1:zJ):Option Int:=
 (zo (zap.r0 N) N (a0,(a0.length:Int),0,a1)).bind fun z2=>zbu z2 (fun z=>some z) (fun y1=>some (-1))
def zap.k (N:Nat):Kq:=⟨317,(ctv [.val (Ty.sl T6),.clo 282 1,.ptr Ty.zJ false []] [T6] [] [] [(Ty.sl T6),Ty.zJ] (zap N)),go [zgs.k] {ro:=[1000000],pk:=[1000000]} [(0,.rets {slots:=[(0,.val (Ty.sl T6)),(1,.fn 282 [1000000]),(7,.val T6),(8,.val T6)],boxes:=[(1000000,Ty.zJ,[])]} [(Ty.sl T6),T6,T6,Ty.zJ] (zo (zap.r0 N) N))] Proofs.Tryz.func317 (hL:=⟨⟨_,_,rfl,by kernel_rfl⟩,trivial⟩)⟩
def zdo (N:Nat) (a0:List Int) (a1:zJ):Option Bool:=
 (zap N a0 a1).bind fun r1=>some (decide (r1≥0))
def zdo.k (N:Nat):Kq:=⟨280,(ctv [.val (Ty.sl T6),.clo 282 1,.ptr Ty.zJ false []] [Ty.bool] [] [] [(Ty.sl T6),Ty.zJ] (zdo N)),go [zap.k N] {ro:=[1000000],pk:=[1000000]} [] Proofs.Tryz.func280⟩
def zeg (a0:Storage) (a1:Int):Option Bool:=
 (cond (decide (a1≥0)) (some ((a1.tmod 16)==0)) (some false)).bind fun g1=>(cond g1 (some (decide (a1<(a0.Bytes.size:Int)))) (some false)).bind fun g2=>some g2
def zeg.k:Kq:=⟨283,(cvv [Ty.bool] [Ty.Storage,T6] zeg),go [] {} [] Proofs.Tryz.func283⟩
def zii (a0:DataType):Option Int:=
 cond (a0.Kind==1) (some (w6 ((w6 (a0.Length.tdiv 2))+1))) (cond (a0.Kind==3)
  (some (w6 (2+(w6 ((w6 (a0.Length.tdiv 9))*2))))) (cond (a0.Kind==4) (some 16) (some a0.Length)))
def zii.k:Kq:=⟨272,(cvv [T6] [Ty.DataType] zii),go [] {} [] Proofs.Tryz.func272⟩
def zfc (N:Nat) (a0:DataType):Option (Int × Int):=
 (zcu N a0).bind fun r1=>cond (r1 !=0) (some (0,r1)) ((zii a0).bind fun r2=>some (r2,0))
def zfc.k (N:Nat):Kq:=⟨231,(cvv [T6,T6] [Ty.DataType] (zfc N)),go [zcu.k N,zii.k] {} [] Proofs.Tryz.func231⟩
def zg4 (N:Nat) (a0:DataType):Option Int:=
 (zfc N a0).bind fun r1=>some r1.1
def zg4.k (N:Nat):Kq:=⟨244,(cvv [T6] [Ty.DataType] (zg4 N)),go [zfc.k N] {} [] Proofs.Tryz.func244⟩
def zdz (N:Nat) (a0:Storage) (a1:zN) (a2:DataType):Option Bool:=
 cond a1.Based ((zeg a0 a1.Pointer).bind fun r1=>(cond r1 ((zbf a1.Offset 0 256).bind fun r2=>some r2) (some false)).bind fun g3=>some g3)
  ((zg4 N a2).bind fun r4=>(zbf a1.Offset 0 (w6 ((a0.Bytes.size:Int)-r4))).bind fun r5=>some r5)
def zdz.k (N:Nat):Kq:=⟨284,(cvv [Ty.bool] [Ty.Storage,Ty.zN,Ty.DataType] (zdz N)),go [zbf.k,zg4.k N,zeg.k] {} [] Proofs.Tryz.func284⟩
def zh9 (N:Nat) (a0:zJ) (a1:zH) (a2:zB):Option Bool:=
 (zb5 a2).bind fun r1=>(zah N a2).bind fun r2=>(zdo N r2 a0).bind fun r3=>cond r3 (some false)
  ((cond ((zj .i64 r1.fields 8) !=0) (some (a2.Op==4)) (some false)).bind fun g4=>cond g4 ((cond ((zj .i64 r1.fields 4096) !=0)
  ((zbf a2.Target 0 (w6 ((a1.zA.length:Int)-1))).bind fun r5=>some (!r5)) (some false)).bind fun g6=>(cond g6 (some true)
  ((cond ((zj .i64 r1.fields 2048) !=0) ((zbf a2.Mask 1 7).bind fun r7=>some (!r7)) (some false)).bind fun g8=>some g8)).bind fun g9=>(cond g9 (some true)
  ((cond ((zj .i64 r1.fields 8192) !=0) ((zeg a1.Storage a2.Pointer).bind fun r10=>some (!r10)) (some false)).bind fun g11=>some g11)).bind fun g12=>
  (cond g12 (some true) ((cond ((zj .i64 r1.fields 16384) !=0) ((zeg a1.Storage a2.Source).bind fun r13=>some (!r13)) (some false)).bind fun g14=>
  some g14)).bind fun g15=>(cond g15 (some true) ((cond ((zj .i64 r1.fields 8) !=0) ((zdz N a1.Storage a2.Place a2.Second).bind fun r16=>some (!r16))
  (some false)).bind fun g17=>some g17)).bind fun g18=>(cond g18 (some true) ((cond ((zj .i64 r1.fields 16) !=0)
  ((zdz N a1.Storage a2.From a2.Second).bind fun r19=>some (!r19)) (some false)).bind fun g20=>some g20)).bind fun g21=>(cond g21 (some true)
  ((cond ((zj .i64 r1.fields 32768) !=0) ((zbf a2.zM 0 4).bind fun r22=>some (!r22)) (some false)).bind fun g23=>some g23)).bind fun g24=>some (!g24))
  ((cond ((zj .i64 r1.fields 4096) !=0) ((zbf a2.Target 0 (w6 ((a1.zA.length:Int)-1))).bind fun r25=>some (!r25))
  (some false)).bind fun g26=>(cond g26 (some true) ((cond ((zj .i64 r1.fields 2048) !=0) ((zbf a2.Mask 1 7).bind fun r27=>some (!r27)) (some false)).bind fun g28=>
  some g28)).bind fun g29=>(cond g29 (some true) ((cond ((zj .i64 r1.fields 8192) !=0) ((zeg a1.Storage a2.Pointer).bind fun r30=>some (!r30))
  (some false)).bind fun g31=>some g31)).bind fun g32=>(cond g32 (some true) ((cond ((zj .i64 r1.fields 16384) !=0) ((zeg a1.Storage a2.Source).bind fun r33=>
  some (!r33)) (some false)).bind fun g34=>some g34)).bind fun g35=>(cond g35 (some true) ((cond ((zj .i64 r1.fields 8) !=0)
  ((zdz N a1.Storage a2.Place a2.zF).bind fun r36=>some (!r36)) (some false)).bind fun g37=>some g37)).bind fun g38=>(cond g38 (some true)
  ((cond ((zj .i64 r1.fields 16) !=0) ((zdz N a1.Storage a2.From a2.Second).bind fun r39=>some (!r39)) (some false)).bind fun g40=>some g40)).bind fun g41=>
  (cond g41 (some true) ((cond ((zj .i64 r1.fields 32768) !=0) ((zbf a2.zM 0 4).bind fun r42=>some (!r42)) (some false)).bind fun g43=>
  some g43)).bind fun g44=>some (!g44)))
def zh9.k (N:Nat):Kq:=⟨205,(cvv [Ty.bool] [Ty.zJ,Ty.zH,Ty.zB] (zh9 N)),go [zbf.k,zb5.k,zdo.k N,zah.k N,zeg.k,zdz.k N] {lits:=[13]} [] Proofs.Tryz.func205⟩
def zgr (a0:Number):Option Int:=
 (zfk a0.N (-999999999999999) 999999999999999).bind fun r1=>(cond (!r1) (some true) ((zfk a0.Scale 0 15).bind fun r2=>some (!r2))).bind fun g3=>
  (zb9 g3 3).bind fun r4=>some r4
def zgr.k:Kq:=⟨206,(cvv [T6] [Ty.Number] zgr),go [zfk.k,zb9.k] {} [] Proofs.Tryz.func206⟩
def zdd (N:Nat) (a0:zJ) (a1:zH) (a2:zB):Option Int:=
 (zbf a2.Op 0 26).bind fun r1=>cond (!r1) (some 4) ((zkh a2).bind fun r2=>
  (zcd (!(zex [(r2.Op==a2.Op),(r2.R==a2.R),(r2.A==a2.A),(r2.B==a2.B),(r2.zM==a2.zM),(r2.Place.Based==a2.Place.Based),(r2.Place.Pointer==a2.Place.Pointer),(r2.Place.Offset==a2.Place.Offset),(r2.From.Based==a2.From.Based),(r2.From.Pointer==a2.From.Pointer),(r2.From.Offset==a2.From.Offset),(r2.zF.Kind==a2.zF.Kind),(r2.zF.Length==a2.zF.Length),(r2.zF.Scale==a2.zF.Scale),(r2.Second.Kind==a2.Second.Kind),(r2.Second.Length==a2.Second.Length),(r2.Second.Scale==a2.Second.Scale),(r2.Half==a2.Half),(r2.zP==a2.zP),(r2.Number.N==a2.Number.N),(r2.Number.Scale==a2.Number.Scale),(r2.Text==a2.Text),(r2.Other==a2.Other),(r2.Mask==a2.Mask),(r2.Target==a2.Target),(r2.Pointer==a2.Pointer),(r2.Source==a2.Source)])) 5).bind fun r3=>
  (zio a0 a2).bind fun r4=>(zcd (!r4) 39).bind fun r5=>(zb5 a2).bind fun r6=>(zhn N a2 r6).bind fun r7=>
  (za1 N ([r3,r5,r7]:List Int)).bind fun r8=>cond (r8 !=0) (some r8) ((zh9 N a0 a1 a2).bind fun r9=>(zcd (!r9) 3).bind fun r10=>
  (zgr a2.Number).bind fun r11=>(cond (decide ((a2.Text.size:Int)>256)) (some true) (some (decide ((a2.Other.size:Int)>256)))).bind fun g12=>
  (zcd g12 2).bind fun r13=>(za1 N ([r10,r11,r13]:List Int)).bind fun r14=>some r14))
def zdd.k (N:Nat):Kq:=⟨132,(cvv [T6] [Ty.zJ,Ty.zH,Ty.zB] (zdd N)),go [zcd.k,zbf.k,za1.k N,zkh.k,zio.k,zhn.k N,zb5.k,zh9.k N,zgr.k] {lits:=[16,21,24,25,26,36,39,50,51]} [] Proofs.Tryz.func132⟩
def zh7 (a0:zH) (a1:zT):Option Int:=
 (zbf a1.From 0 a1.To).bind fun r1=>(cond r1 (some (decide (a1.To≤(a0.zA.length:Int)))) (some false)).bind fun g2=>
  (cond g2 ((zbf a1.Exception 0 999).bind fun r3=>some r3) (some false)).bind fun g4=>
  (cond g4 ((zbf a1.Handler 0 (w6 ((a0.zA.length:Int)-1))).bind fun r5=>some r5) (some false)).bind fun g6=>
  (zcd (!g6) 3).bind fun r7=>some r7
def zh7.k:Kq:=⟨133,(cvv [T6] [Ty.zH,Ty.zT] zh7),go [zcd.k,zbf.k] {} [] Proofs.Tryz.func133⟩
def zp.b0 (N:Nat) (s57:List zB) (s58:Int) (s59:Int) (b2:zJ) (b3:zH):Option (Round (Int × Int) ((List zB) × Int × Int × zJ × zH)):=
 cond (decide (s59<s58)) ((idx s57 s59).bind fun x1001=>(zdd N b2 b3 x1001).bind fun r1002=>cond (r1002 !=0) (some (.result (s59,r1002)))
  (some (.again (s57,s58,(w6 (s59+1)),b2,b3)))) (some (.leave (s57,s58,s59,b2,b3)))
def zp.r0 (N:Nat) (x:(List zB) × Int × Int × zJ × zH):=zp.b0 N x.1 x.2.1 x.2.2.1 x.2.2.2.1 x.2.2.2.2
def zp.b2 (N:Nat) (s74:List zT) (s75:Int) (s76:Int) (b3:zH):Option (Round (Int × Int) ((List zT) × Int × Int × zH)):=
 cond (decide (s76<s75)) ((idx s74 s76).bind fun x3001=>(zh7 b3 x3001).bind fun r3002=>cond (r3002 !=0) (some (.result (s76,r3002)))
  (some (.again (s74,s75,(w6 (s76+1)),b3)))) (some (.leave (s74,s75,s76,b3)))
def zp.r2 (N:Nat) (x:(List zT) × Int × Int × zH):=zp.b2 N x.1 x.2.1 x.2.2.1 x.2.2.2
def zp (N:Nat) (a0:zJ) (a1:zH):Option (Int × Int):=
 (zen a0).bind fun r1=>cond (r1 !=0) (some (0,r1)) ((zt N a1.Storage).bind fun r2=>cond (r2.2 !=0) (some (0,r2.2))
  ((zf7 N a1.Storage.Tags true).bind fun r3=>(zcd r3 22).bind fun r4=>(zcd ((a1.zA.length:Int)==0) 1).bind fun r5=>
  (cond (decide ((a1.zA.length:Int)>240)) (some true) (some (decide ((a1.zS.length:Int)>40)))).bind fun g6=>(zcd g6 2).bind fun r7=>
  (za1 N ([r4,r5,r7]:List Int)).bind fun r8=>cond (r8 !=0) (some (0,r8))
  ((zo (zp.r0 N) N (a1.zA,(a1.zA.length:Int),0,a0,a1)).bind fun z10=>zbu z10 (fun z=>some z) (fun y9=>
  (zo (zp.r2 N) N (y9.2.2.2.2.zS,(y9.2.2.2.2.zS.length:Int),0,y9.2.2.2.2)).bind fun z12=>zbu z12 (fun z=>some z) (fun y11=>
  some ((y11.2.2.2.zA.length:Int),0))))))
def zp.k (N:Nat):Kq:=⟨74,(cvv [T6,T6] [Ty.zJ,Ty.zH] (zp N)),go [zen.k,zcd.k,zt.k N,za1.k N,zf7.k N,zdd.k N,zh7.k] {lits:=[33,34,39,50,51]} [(0,.rets {slots:=[(2,.ptr 2 0),(3,.ptr 3 0),(57,.val (Ty.sl Ty.zB)),(58,.val T6),(59,.val T6)],boxes:=[(2,Ty.zJ,[]),(3,Ty.zH,[])]} [(Ty.sl Ty.zB),T6,T6,Ty.zJ,Ty.zH] (zo (zp.r0 N) N)),(2,.rets {slots:=[(3,.ptr 3 0),(74,.val (Ty.sl Ty.zT)),(75,.val T6),(76,.val T6)],boxes:=[(3,Ty.zH,[])]} [(Ty.sl Ty.zT),T6,T6,Ty.zH] (zo (zp.r2 N) N))] Proofs.Tryz.func74 (hL:=⟨⟨_,_,rfl,by kernel_rfl⟩,⟨_,_,rfl,by kernel_rfl⟩,trivial⟩)⟩
def zhk (N:Nat) (a0:zJ) (a1:zH):Option Int:=
 (zp N a0 a1).bind fun r1=>some r1.2
def zhk.k (N:Nat):Kq:=⟨30,(cvv [T6] [Ty.zJ,Ty.zH] (zhk N)),go [zp.k N] {} [] Proofs.Tryz.func30⟩
def zax.b0 (N:Nat) (s3:List Int) (s7:List zB) (s8:Int) (s9:Int) (b1:zH):Option (Stp ((List Int) × (List zB) × Int × Int × zH)):=
 cond (decide (s9<s8)) ((idx s7 s9).bind fun x1001=>(cond (x1001.Op==18) (some (decide ((w6 (s9+1))<(b1.zA.length:Int))))
  (some false)).bind fun g1002=>cond g1002 (cond (Nat.ble ((s3.length+([(w6 (s9+1))]:List Int).length)*8) zr)
  (some (.again ((s3++([(w6 (s9+1))]:List Int)),s7,s8,(w6 (s9+1)),b1))) none)
  (some (.again (s3,s7,s8,(w6 (s9+1)),b1)))) (some (.leave (s3,s7,s8,s9,b1)))
def zax.r0 (N:Nat) (x:(List Int) × (List zB) × Int × Int × zH):=zax.b0 N x.1 x.2.1 x.2.2.1 x.2.2.2.1 x.2.2.2.2
def zax (N:Nat) (a0:zH):Option ((List Int)):=
 (zh (zax.r0 N) N ([],a0.zA,(a0.zA.length:Int),0,a0)).bind fun y1=>some y1.1
def zax.k (N:Nat):Kq:=⟨134,(cvv [(Ty.sl T6)] [Ty.zH] (zax N)),go [] {lits:=[28]} [(0,.plain {slots:=[(1,.ptr 1 0),(3,.own 5000003 T6),(7,.val (Ty.sl Ty.zB)),(8,.val T6),(9,.val T6)],boxes:=[(1,Ty.zH,[])]} [(Ty.sl T6),(Ty.sl Ty.zB),T6,T6,Ty.zH] (zh (zax.r0 N) N))] Proofs.Tryz.func134 (hL:=⟨⟨_,_,rfl,by kernel_rfl⟩,trivial⟩)⟩
def zaf.b0 (N:Nat) (s3:List Bool) (s15:List zT) (s16:Int) (s17:Int) (b1:zH):Option (Stp ((List Bool) × (List zT) × Int × Int × zH)):=
 cond (decide (s17<s16)) ((idx s15 s17).bind fun x1001=>if 0≤x1001.Handler then(if x1001.Handler<(s3.length:Int)then((s3[x1001.Handler.toNat]?).bind fun x1002=>
  some (.again ((s3.set x1001.Handler.toNat true),s15,s16,(w6 (s17+1)),b1)))else none)else none) (some (.leave (s3,s15,s16,s17,b1)))
def zaf.r0 (N:Nat) (x:(List Bool) × (List zT) × Int × Int × zH):=zaf.b0 N x.1 x.2.1 x.2.2.1 x.2.2.2.1 x.2.2.2.2
def zaf.b2 (N:Nat) (s3:List Bool) (s27:List Int) (s28:Int) (s29:Int):Option (Stp ((List Bool) × (List Int) × Int × Int)):=
 cond (decide (s29<s28)) ((idx s27 s29).bind fun x3001=>if 0≤x3001 then(if x3001<(s3.length:Int)then((s3[x3001.toNat]?).bind fun x3002=>
  some (.again ((s3.set x3001.toNat true),s27,s28,(w6 (s29+1)))))else none)else none) (some (.leave (s3,s27,s28,s29)))
def zaf.r2 (N:Nat) (x:(List Bool) × (List Int) × Int × Int):=zaf.b2 N x.1 x.2.1 x.2.2.1 x.2.2.2
def zaf (N:Nat) (a0:zH):Option ((List Bool)):=
 if 0≤(a0.zA.length:Int)then(if(a0.zA.length:Int)≤(a0.zA.length:Int)then(cond (Nat.ble ((a0.zA.length:Int).toNat*1) zr)
  (if 0≤(0:Int)then(if(0:Int)<((List.replicate (a0.zA.length:Int).toNat (false:Bool)).length:Int)then(((List.replicate (a0.zA.length:Int).toNat (false:Bool))[(0:Int).toNat]?).bind fun x1=>
  (zh (zaf.r0 N) N (((List.replicate (a0.zA.length:Int).toNat (false:Bool)).set ((0:Int).toNat) true),a0.zS,(a0.zS.length:Int),0,a0)).bind fun y2=>
  (zax N y2.2.2.2.2).bind fun r3=>(zh (zaf.r2 N) N (y2.1,r3,(r3.length:Int),0)).bind fun y4=>
  some y4.1)else none)else none) none)else none)else none
def zaf.k (N:Nat):Kq:=⟨75,(cvv [(Ty.sl Ty.bool)] [Ty.zH] (zaf N)),go [zax.k N] {} [(0,.plain {slots:=[(1,.ptr 1 0),(3,.own 5000003 Ty.bool),(15,.val (Ty.sl Ty.zT)),(16,.val T6),(17,.val T6)],boxes:=[(1,Ty.zH,[])]} [(Ty.sl Ty.bool),(Ty.sl Ty.zT),T6,T6,Ty.zH] (zh (zaf.r0 N) N)),(2,.plain {slots:=[(3,.own 5000003 Ty.bool),(27,.val (Ty.sl T6)),(28,.val T6),(29,.val T6)],boxes:=[]} [(Ty.sl Ty.bool),(Ty.sl T6),T6,T6] (zh (zaf.r2 N) N))] Proofs.Tryz.func75 (hL:=⟨⟨_,_,rfl,by kernel_rfl⟩,⟨_,_,rfl,by kernel_rfl⟩,trivial⟩)⟩
def zds (a0:Int):Option Bool:=
 (cond (a0==6) (some true) (some (a0==7))).bind fun g1=>(cond g1 (some true) (some (a0==8))).bind fun g2=>(cond g2 (some true) (some (a0==18))).bind fun g3=>some g3
def zds.k:Kq:=⟨68,(cvv [Ty.bool] [T6] zds),go [] {} [] Proofs.Tryz.func68⟩
def zea (a0:zH) (a1:Int):Option ((List Int)):=
 (idx a0.zA a1).bind fun x1=>(cond (x1.Op==8) (some (x1.Op==8)) (cond (x1.Op==18) (some (x1.Op==18)) (cond (x1.Op==19) (some (x1.Op==19))
  (cond (x1.Op==20) (some (x1.Op==20)) (some (x1.Op==26)))))).bind fun q2=>cond q2 ((zds x1.Op).bind fun r3=>
  cond r3 (cond (Nat.ble (([x1.Target]:List Int).length*8) zr) (some ([x1.Target]:List Int)) none) (some []))
  (cond (decide ((w6 (a1+1))<(a0.zA.length:Int))) (cond (Nat.ble (([(w6 (a1+1))]:List Int).length*8) zr)
  ((zds x1.Op).bind fun r4=>cond r4 (cond (Nat.ble ((([(w6 (a1+1))]:List Int).length+([x1.Target]:List Int).length)*8) zr)
  (some (([(w6 (a1+1))]:List Int)++([x1.Target]:List Int))) none) (some ([(w6 (a1+1))]:List Int))) none)
  ((zds x1.Op).bind fun r5=>cond r5 (cond (Nat.ble (([x1.Target]:List Int).length*8) zr) (some ([x1.Target]:List Int)) none) (some [])))
def zea.k:Kq:=⟨78,(cvv [(Ty.sl T6)] [Ty.zH,T6] zea),go [zds.k] {lits:=[23,37],bj:=[25]} [] Proofs.Tryz.func78⟩
def zae.b0 (N:Nat) (s5:List Bool) (s6:List Int) (s13:List Bool) (s14:Int) (s15:Int) (b2:zH):Option (Stp ((List Bool) × (List Int) × (List Bool) × Int × Int × zH)):=
 cond (decide (s15<s14)) ((idx s13 s15).bind fun x1001=>cond x1001 (cond (Nat.ble ((s6.length+([s15]:List Int).length)*8) zr)
  (some (.again (s5,(s6++([s15]:List Int)),s13,s14,(w6 (s15+1)),b2))) none) (some (.again (s5,s6,s13,s14,(w6 (s15+1)),b2))))
  (some (.leave (s5,s6,s13,s14,s15,b2)))
def zae.r0 (N:Nat) (x:(List Bool) × (List Int) × (List Bool) × Int × Int × zH):=zae.b0 N x.1 x.2.1 x.2.2.1 x.2.2.2.1 x.2.2.2.2.1 x.2.2.2.2.2
def zae.b2 (N:Nat) (s5:List Bool) (s6:List Int) (b2:zH):Option (Stp ((List Bool) × (List Int) × zH)):=
 cond (decide ((s6.length:Int)>0)) (if 0≤(0:Int)then(if(0:Int)<(s6.length:Int)then((s6[(0:Int).toNat]?).bind fun x3001=>
  if 0≤(1:Int)∧(1:Int)≤(s6.length:Int)then(if 0≤x3001 then(if x3001<(s5.length:Int)then((s5[x3001.toNat]?).bind fun x3002=>cond (!x3002)
  (if 0≤x3001 then(if x3001<(s5.length:Int)then((s5[x3001.toNat]?).bind fun x3003=>(zea b2 x3001).bind fun r3004=>
  cond (Nat.ble (((s6.drop ((1:Int).toNat)).length+r3004.length)*8) zr)
  (some (.again ((s5.set x3001.toNat true),((s6.drop ((1:Int).toNat))++r3004),b2))) none)else none)else none)
  (some (.again (s5,(s6.drop ((1:Int).toNat)),b2))))else none)else none)else none)else none)else none) (some (.leave (s5,s6,b2)))
def zae.r2 (N:Nat) (x:(List Bool) × (List Int) × zH):=zae.b2 N x.1 x.2.1 x.2.2
def zae (N:Nat) (a0:zH) (a1:List Bool):Option ((List Bool)):=
 if 0≤(a1.length:Int)then(if(a1.length:Int)≤(a1.length:Int)then(cond (Nat.ble ((a1.length:Int).toNat*1) zr)
  ((zh (zae.r0 N) N ((List.replicate (a1.length:Int).toNat (false:Bool)),[],a1,(a1.length:Int),0,a0)).bind fun y1=>
  (zh (zae.r2 N) N (y1.1,y1.2.1,y1.2.2.2.2.2)).bind fun y2=>some y2.1) none)else none)else none
def zae.k (N:Nat):Kq:=⟨76,(cvv [(Ty.sl Ty.bool)] [Ty.zH,(Ty.sl Ty.bool)] (zae N)),go [zea.k] {lits:=[23,45]} [(0,.plain {slots:=[(2,.ptr 2 0),(5,.own 5000005 Ty.bool),(6,.own 5000006 T6),(13,.val (Ty.sl Ty.bool)),(14,.val T6),(15,.val T6)],boxes:=[(2,Ty.zH,[])]} [(Ty.sl Ty.bool),(Ty.sl T6),(Ty.sl Ty.bool),T6,T6,Ty.zH] (zh (zae.r0 N) N)),(2,.plain {slots:=[(2,.ptr 2 0),(5,.own 5000005 Ty.bool),(6,.own 5000006 T6)],boxes:=[(2,Ty.zH,[])]} [(Ty.sl Ty.bool),(Ty.sl T6),Ty.zH] (zh (zae.r2 N) N))] Proofs.Tryz.func76 (hL:=⟨⟨_,_,rfl,by kernel_rfl⟩,⟨_,_,rfl,by kernel_rfl⟩,trivial⟩)⟩
def ze0 (a0:zD) (a1:Int):Option Bool:=
 some (a0.Register==a1)
def ze0.k:Kq:=⟨211,(ctv [.val Ty.zD,.ptr T6 false []] [Ty.bool] [] [] [Ty.zD,T6] ze0),go [] {ro:=[1000000],pk:=[1000000]} [] Proofs.Tryz.func211⟩
def zy.b0 (N:Nat) (s0:List zD) (s7:Int) (s8:Int) (b1000000:Int):Option (Round Int ((List zD) × Int × Int × Int)):=
 cond (decide (s8<s7)) ((idx s0 s8).bind fun x1001=>(ze0 x1001 b1000000).bind fun r1002=>cond r1002 (some (.result s8))
  (some (.again (s0,s7,(w6 (s8+1)),b1000000)))) (some (.leave (s0,s7,s8,b1000000)))
def zy.r0 (N:Nat) (x:(List zD) × Int × Int × Int):=zy.b0 N x.1 x.2.1 x.2.2.1 x.2.2.2
def zy (N:Nat) (a0:List zD) (a1:Int):Option Int:=
 (zo (zy.r0 N) N (a0,(a0.length:Int),0,a1)).bind fun z2=>zbu z2 (fun z=>some z) (fun y1=>some (-1))
def zy.k (N:Nat):Kq:=⟨161,(ctv [.val (Ty.sl Ty.zD),.clo 211 1,.ptr T6 false []] [T6] [] [] [(Ty.sl Ty.zD),T6] (zy N)),go [ze0.k] {ro:=[1000000],pk:=[1000000]} [(0,.rets {slots:=[(0,.val (Ty.sl Ty.zD)),(1,.fn 211 [1000000]),(7,.val T6),(8,.val T6)],boxes:=[(1000000,T6,[])]} [(Ty.sl Ty.zD),T6,T6,T6] (zo (zy.r0 N) N))] Proofs.Tryz.func161 (hL:=⟨⟨_,_,rfl,by kernel_rfl⟩,trivial⟩)⟩
def zm.b0 (N:Nat) (s0:List zD) (s5:Int) (s6:Int) (b1000000:Int):Option (Stp ((List zD) × Int × Int × Int)):=
 cond (decide (s6<(s0.length:Int))) (if 0≤s6 then(if s6<(s0.length:Int)then((s0[s6.toNat]?).bind fun x1001=>(ze0 x1001 b1000000).bind fun r1002=>
  cond (!r1002) (if 0≤s5 then(if s5<(s0.length:Int)then((s0[s5.toNat]?).bind fun x1003=>
  some (.again ((s0.set s5.toNat x1001),(w6 (s5+1)),(w6 (s6+1)),b1000000)))else none)else none)
  (some (.again (s0,s5,(w6 (s6+1)),b1000000))))else none)else none) (some (.leave (s0,s5,s6,b1000000)))
def zm.r0 (N:Nat) (x:(List zD) × Int × Int × Int):=zm.b0 N x.1 x.2.1 x.2.2.1 x.2.2.2
def zm (N:Nat) (a0:List zD) (a1:Int):Option ((List zD)):=
 (zy N a0 a1).bind fun r1=>cond (r1==(-1)) (some a0)
  ((zh (zm.r0 N) N (a0,r1,(w6 (r1+1)),a1)).bind fun y2=>
  if 0≤y2.2.1∧y2.2.1≤(y2.1.length:Int)then(if 0≤y2.2.1∧y2.2.1≤((y2.1.take y2.2.1.toNat++List.replicate (y2.1.length-y2.2.1.toNat)
  ((⟨0,(⟨0,0,0⟩:DataType),0⟩:zD):zD)).length:Int)then(if 0≤(0:Int)∧(0:Int)≤y2.2.1 then(some (((y2.1.take y2.2.1.toNat++List.replicate (y2.1.length-y2.2.1.toNat)
  ((⟨0,(⟨0,0,0⟩:DataType),0⟩:zD):zD)).drop ((0:Int).toNat)).take (y2.2.1.toNat-(0:Int).toNat)))else none)else none)else none)
def zm.k (N:Nat):Kq:=⟨141,(ctv [.mov Ty.zD,.clo 211 1,.ptr T6 false []] [(Ty.sl Ty.zD)] [] [0] [(Ty.sl Ty.zD),T6] (zm N)),go [zy.k N,ze0.k] {ro:=[1000000],pk:=[1000000]} [(0,.plain {slots:=[(0,.own 5000000 Ty.zD),(1,.fn 211 [1000000]),(5,.val T6),(6,.val T6)],boxes:=[(1000000,T6,[])]} [(Ty.sl Ty.zD),T6,T6,T6] (zh (zm.r0 N) N))] Proofs.Tryz.func141 (hL:=⟨⟨_,_,rfl,by kernel_rfl⟩,trivial⟩)⟩
def zu3:Ct U:={params:=[.val (Ty.sl Ty.zD)],results:=[(Ty.sl Ty.zD)],outs:=[],fresh:=[0],fn:=app U [(Ty.sl Ty.zD)] (R:=PT U [(Ty.sl Ty.zD)]) (zdk 40)}
theorem zu3.meets:ziv (ztv [] [] [] [] [] [] [] []) 142 zu3:=
 zy5 z3x (z44 (l:=[]) rfl all_nil) (z31 (l:=[]) rfl all_nil) (Lp:=pick []) Proofs.Tryz.func142 (by kernel_rfl) (z5g (l:=[]) rfl all_nil) (fun y=>by kernel_rfl) (e:=49) (t:=Ty.zD) rfl rfl rfl rfl rfl rfl rfl (by kernel_rfl) rfl rfl rfl rfl rfl rfl (fun xs=>by kernel_rfl) fun ds y h=>by
  obtain⟨xs,rfl,hx⟩:=z9t h;refine⟨xs,rfl,fun b hb=> ?_⟩;cases b with
  | true=>
   have:=hb rfl;subst this;exact Eq.trans (by kernel_rfl) hx
  | false=>exact Eq.trans (b:=cond (Nat.ble ((0+xs.length)*40) zr) (some xs) none) (by kernel_rfl) (by rw [Nat.zero_add];exact hx)
def zu3.k:Kq:=⟨142,zu3,zu3.meets⟩
def zd3 (N:Nat) (a0:List zD) (a1:Int):Option ((List zD)):=
 (zdk 40 a0).bind fun r1=>(zm N r1 a1).bind fun r2=>some r2
def zd3.k (N:Nat):Kq:=⟨137,(ctv [.val (Ty.sl Ty.zD),.val T6] [(Ty.sl Ty.zD)] [] [0] [(Ty.sl Ty.zD),T6] (zd3 N)),go [zm.k N,zu3.k] {} [] Proofs.Tryz.func137⟩
def zbn.b0 (N:Nat) (s1:Int) (s2:Int) (s7:List zD) (s10:List zD) (s11:Int) (s12:Int):Option (Stp (Int × Int × (List zD) × (List zD) × Int × Int)):=
 cond (decide (s12<s11)) ((idx s10 s12).bind fun x1001=>cond (x1001.Register==s1)
  (cond (Nat.ble ((s7.length+([(⟨s2,x1001.zF,x1001.Offset⟩:zD)]:List zD).length)*40) zr)
  (some (.again (s1,s2,(s7++([(⟨s2,x1001.zF,x1001.Offset⟩:zD)]:List zD)),s10,s11,(w6 (s12+1))))) none)
  (some (.again (s1,s2,s7,s10,s11,(w6 (s12+1)))))) (some (.leave (s1,s2,s7,s10,s11,s12)))
def zbn.r0 (N:Nat) (x:Int × Int × (List zD) × (List zD) × Int × Int):=zbn.b0 N x.1 x.2.1 x.2.2.1 x.2.2.2.1 x.2.2.2.2.1 x.2.2.2.2.2
def zbn (N:Nat) (a0:List zD) (a1:Int) (a2:Int):Option ((List zD)):=
 (zh (zbn.r0 N) N (a1,a2,[],a0,(a0.length:Int),0)).bind fun y1=>some y1.2.2.1
def zbn.k (N:Nat):Kq:=⟨138,(cvv [(Ty.sl Ty.zD)] [(Ty.sl Ty.zD),T6,T6] (zbn N)),go [] {lits:=[24]} [(0,.plain {slots:=[(1,.val T6),(2,.val T6),(7,.own 5000007 Ty.zD),(10,.val (Ty.sl Ty.zD)),(11,.val T6),(12,.val T6)],boxes:=[]} [T6,T6,(Ty.sl Ty.zD),(Ty.sl Ty.zD),T6,T6] (zh (zbn.r0 N) N))] Proofs.Tryz.func138 (hL:=⟨⟨_,_,rfl,by kernel_rfl⟩,trivial⟩)⟩
def zbx.b0 (N:Nat) (s1:List zD) (s5:List zD) (s34:List zD) (s35:Int) (s36:Int) (b2:zB):Option (Stp ((List zD) × (List zD) × (List zD) × Int × Int × zB)):=
 cond (decide (s36<s35)) ((idx s34 s36).bind fun x1001=>
  (cond (zex [(x1001.zF.Kind==b2.zF.Kind),(x1001.zF.Length==b2.zF.Length),(x1001.zF.Scale==b2.zF.Scale)]) (some (x1001.Offset==b2.Place.Offset))
  (some false)).bind fun g1002=>cond g1002 ((zbn N s1 x1001.Register b2.R).bind fun r1003=>cond (Nat.ble ((s5.length+r1003.length)*40) zr)
  (some (.again (s1,(s5++r1003),s34,s35,(w6 (s36+1)),b2))) none) (some (.again (s1,s5,s34,s35,(w6 (s36+1)),b2))))
  (some (.leave (s1,s5,s34,s35,s36,b2)))
def zbx.r0 (N:Nat) (x:(List zD) × (List zD) × (List zD) × Int × Int × zB):=zbx.b0 N x.1 x.2.1 x.2.2.1 x.2.2.2.1 x.2.2.2.2.1 x.2.2.2.2.2
def zbx (N:Nat) (a0:zB) (a1:List zD):Option ((List zD)):=
 (zd3 N a1 a0.R).bind fun r1=>cond (Nat.ble ((r1.length+([(⟨a0.R,a0.zF,(-1)⟩:zD)]:List zD).length)*40) zr)
  (cond a0.Place.Based (some (r1++([(⟨a0.R,a0.zF,(-1)⟩:zD)]:List zD)))
  (cond (Nat.ble (((r1++([(⟨a0.R,a0.zF,(-1)⟩:zD)]:List zD)).length+([(⟨a0.R,a0.zF,a0.Place.Offset⟩:zD)]:List zD).length)*40) zr)
  ((zh (zbx.r0 N) N (a1,((r1++([(⟨a0.R,a0.zF,(-1)⟩:zD)]:List zD))++([(⟨a0.R,a0.zF,a0.Place.Offset⟩:zD)]:List zD)),a1,(a1.length:Int),0,a0)).bind fun y2=>
  some y2.2.1) none)) none
def zbx.k (N:Nat):Kq:=⟨136,(ctv [.val Ty.zB,.val (Ty.sl Ty.zD)] [(Ty.sl Ty.zD)] [] [0] [Ty.zB,(Ty.sl Ty.zD)] (zbx N)),go [zd3.k N,zbn.k N] {lits:=[17,32,59]} [(0,.plain {slots:=[(1,.val (Ty.sl Ty.zD)),(2,.ptr 2 0),(5,.own 5000005 Ty.zD),(34,.val (Ty.sl Ty.zD)),(35,.val T6),(36,.val T6)],boxes:=[(2,Ty.zB,[])]} [(Ty.sl Ty.zD),(Ty.sl Ty.zD),(Ty.sl Ty.zD),T6,T6,Ty.zB] (zh (zbx.r0 N) N))] Proofs.Tryz.func136 (hL:=⟨⟨_,_,rfl,by kernel_rfl⟩,trivial⟩)⟩
def zgk (a0:zD):Option Bool:=
 some (a0.Offset !=(-1))
def zgk.k:Kq:=⟨290,(cvv [Ty.bool] [Ty.zD] zgk),go [] {} [] Proofs.Tryz.func290⟩
def zw.b0 (N:Nat) (s0:List zD) (s7:Int) (s8:Int):Option (Round Int ((List zD) × Int × Int)):=
 cond (decide (s8<s7)) ((idx s0 s8).bind fun x1001=>(zgk x1001).bind fun r1002=>cond r1002 (some (.result s8))
  (some (.again (s0,s7,(w6 (s8+1)))))) (some (.leave (s0,s7,s8)))
def zw.r0 (N:Nat) (x:(List zD) × Int × Int):=zw.b0 N x.1 x.2.1 x.2.2
def zw (N:Nat) (a0:List zD):Option Int:=
 (zo (zw.r0 N) N (a0,(a0.length:Int),0)).bind fun z2=>zbu z2 (fun z=>some z) (fun y1=>some (-1))
def zw.k (N:Nat):Kq:=⟨161,(ctv [.val (Ty.sl Ty.zD),.clo 290 0] [T6] [] [] [(Ty.sl Ty.zD)] (zw N)),go [zgk.k] {} [(0,.rets {slots:=[(0,.val (Ty.sl Ty.zD)),(1,.fn 290 []),(7,.val T6),(8,.val T6)],boxes:=[]} [(Ty.sl Ty.zD),T6,T6] (zo (zw.r0 N) N))] Proofs.Tryz.func161 (hL:=⟨⟨_,_,rfl,by kernel_rfl⟩,trivial⟩)⟩
def zk.b0 (N:Nat) (s0:List zD) (s5:Int) (s6:Int):Option (Stp ((List zD) × Int × Int)):=
 cond (decide (s6<(s0.length:Int))) (if 0≤s6 then(if s6<(s0.length:Int)then((s0[s6.toNat]?).bind fun x1001=>(zgk x1001).bind fun r1002=>cond (!r1002)
  (if 0≤s5 then(if s5<(s0.length:Int)then((s0[s5.toNat]?).bind fun x1003=>
  some (.again ((s0.set s5.toNat x1001),(w6 (s5+1)),(w6 (s6+1)))))else none)else none)
  (some (.again (s0,s5,(w6 (s6+1))))))else none)else none) (some (.leave (s0,s5,s6)))
def zk.r0 (N:Nat) (x:(List zD) × Int × Int):=zk.b0 N x.1 x.2.1 x.2.2
def zk (N:Nat) (a0:List zD):Option ((List zD)):=
 (zw N a0).bind fun r1=>cond (r1==(-1)) (some a0)
  ((zh (zk.r0 N) N (a0,r1,(w6 (r1+1)))).bind fun y2=>
  if 0≤y2.2.1∧y2.2.1≤(y2.1.length:Int)then(if 0≤y2.2.1∧y2.2.1≤((y2.1.take y2.2.1.toNat++List.replicate (y2.1.length-y2.2.1.toNat)
  ((⟨0,(⟨0,0,0⟩:DataType),0⟩:zD):zD)).length:Int)then(if 0≤(0:Int)∧(0:Int)≤y2.2.1 then(some (((y2.1.take y2.2.1.toNat++List.replicate (y2.1.length-y2.2.1.toNat)
  ((⟨0,(⟨0,0,0⟩:DataType),0⟩:zD):zD)).drop ((0:Int).toNat)).take (y2.2.1.toNat-(0:Int).toNat)))else none)else none)else none)
def zk.k (N:Nat):Kq:=⟨141,(ctv [.mov Ty.zD,.clo 290 0] [(Ty.sl Ty.zD)] [] [0] [(Ty.sl Ty.zD)] (zk N)),go [zw.k N,zgk.k] {} [(0,.plain {slots:=[(0,.own 5000000 Ty.zD),(1,.fn 290 []),(5,.val T6),(6,.val T6)],boxes:=[]} [(Ty.sl Ty.zD),T6,T6] (zh (zk.r0 N) N))] Proofs.Tryz.func141 (hL:=⟨⟨_,_,rfl,by kernel_rfl⟩,trivial⟩)⟩
def zjj (N:Nat) (a0:List zD):Option ((List zD)):=
 (zdk 40 a0).bind fun r1=>(zk N r1).bind fun r2=>some r2
def zjj.k (N:Nat):Kq:=⟨212,(ctv [.val (Ty.sl Ty.zD)] [(Ty.sl Ty.zD)] [] [0] [(Ty.sl Ty.zD)] (zjj N)),go [zk.k N,zu3.k] {} [] Proofs.Tryz.func212⟩
def zg9 (N:Nat) (a0:DataType):Option Int:=
 (zfc N a0).bind fun r1=>some r1.1
def zg9.k (N:Nat):Kq:=⟨160,(cvv [T6] [Ty.DataType] (zg9 N)),go [zfc.k N] {} [] Proofs.Tryz.func160⟩
def zez (N:Nat) (a0:zD) (a1:Int) (a2:Int):Option Bool:=
 (cond (a0.Offset !=(-1)) (some (decide (a0.Offset<(w6 (a1+a2))))) (some false)).bind fun g1=>(cond g1 ((zg9 N a0.zF).bind fun r2=>
  some (decide (a1<(w6 (a0.Offset+r2))))) (some false)).bind fun g3=>some g3
def zez.k (N:Nat):Kq:=⟨213,(ctv [.val Ty.zD,.ptr T6 false [],.ptr T6 false []] [Ty.bool] [] [] [Ty.zD,T6,T6] (zez N)),go [zg9.k N] {ro:=[1000000,1000001],pk:=[1000000,1000001]} [] Proofs.Tryz.func213⟩
def zx.b0 (N:Nat) (s0:List zD) (s7:Int) (s8:Int) (b1000000:Int) (b1000001:Int):Option (Round Int ((List zD) × Int × Int × Int × Int)):=
 cond (decide (s8<s7)) ((idx s0 s8).bind fun x1001=>(zez N x1001 b1000000 b1000001).bind fun r1002=>cond r1002 (some (.result s8))
  (some (.again (s0,s7,(w6 (s8+1)),b1000000,b1000001)))) (some (.leave (s0,s7,s8,b1000000,b1000001)))
def zx.r0 (N:Nat) (x:(List zD) × Int × Int × Int × Int):=zx.b0 N x.1 x.2.1 x.2.2.1 x.2.2.2.1 x.2.2.2.2
def zx (N:Nat) (a0:List zD) (a1:Int) (a2:Int):Option Int:=
 (zo (zx.r0 N) N (a0,(a0.length:Int),0,a1,a2)).bind fun z2=>zbu z2 (fun z=>some z) (fun y1=>some (-1))
def zx.k (N:Nat):Kq:=⟨161,(ctv [.val (Ty.sl Ty.zD),.clo 213 2,.ptr T6 false [],.ptr T6 false []] [T6] [] [] [(Ty.sl Ty.zD),T6,T6] (zx N)),go [zez.k N] {ro:=[1000000,1000001],pk:=[1000000,1000001]} [(0,.rets {slots:=[(0,.val (Ty.sl Ty.zD)),(1,.fn 213 [1000000,1000001]),(7,.val T6),(8,.val T6)],boxes:=[(1000000,T6,[]),(1000001,T6,[])]} [(Ty.sl Ty.zD),T6,T6,T6,T6] (zo (zx.r0 N) N))] Proofs.Tryz.func161 (hL:=⟨⟨_,_,rfl,by kernel_rfl⟩,trivial⟩)⟩
def zl.b0 (N:Nat) (s0:List zD) (s5:Int) (s6:Int) (b1000000:Int) (b1000001:Int):Option (Stp ((List zD) × Int × Int × Int × Int)):=
 cond (decide (s6<(s0.length:Int))) (if 0≤s6 then(if s6<(s0.length:Int)then((s0[s6.toNat]?).bind fun x1001=>
  (zez N x1001 b1000000 b1000001).bind fun r1002=>cond (!r1002) (if 0≤s5 then(if s5<(s0.length:Int)then((s0[s5.toNat]?).bind fun x1003=>
  some (.again ((s0.set s5.toNat x1001),(w6 (s5+1)),(w6 (s6+1)),b1000000,b1000001)))else none)else none)
  (some (.again (s0,s5,(w6 (s6+1)),b1000000,b1000001))))else none)else none) (some (.leave (s0,s5,s6,b1000000,b1000001)))
def zl.r0 (N:Nat) (x:(List zD) × Int × Int × Int × Int):=zl.b0 N x.1 x.2.1 x.2.2.1 x.2.2.2.1 x.2.2.2.2
def zl (N:Nat) (a0:List zD) (a1:Int) (a2:Int):Option ((List zD)):=
 (zx N a0 a1 a2).bind fun r1=>cond (r1==(-1)) (some a0)
  ((zh (zl.r0 N) N (a0,r1,(w6 (r1+1)),a1,a2)).bind fun y2=>
  if 0≤y2.2.1∧y2.2.1≤(y2.1.length:Int)then(if 0≤y2.2.1∧y2.2.1≤((y2.1.take y2.2.1.toNat++List.replicate (y2.1.length-y2.2.1.toNat)
  ((⟨0,(⟨0,0,0⟩:DataType),0⟩:zD):zD)).length:Int)then(if 0≤(0:Int)∧(0:Int)≤y2.2.1 then(some (((y2.1.take y2.2.1.toNat++List.replicate (y2.1.length-y2.2.1.toNat)
  ((⟨0,(⟨0,0,0⟩:DataType),0⟩:zD):zD)).drop ((0:Int).toNat)).take (y2.2.1.toNat-(0:Int).toNat)))else none)else none)else none)
def zl.k (N:Nat):Kq:=⟨141,(ctv [.mov Ty.zD,.clo 213 2,.ptr T6 false [],.ptr T6 false []] [(Ty.sl Ty.zD)] [] [0] [(Ty.sl Ty.zD),T6,T6] (zl N)),go [zx.k N,zez.k N] {ro:=[1000000,1000001],pk:=[1000000,1000001]} [(0,.plain {slots:=[(0,.own 5000000 Ty.zD),(1,.fn 213 [1000000,1000001]),(5,.val T6),(6,.val T6)],boxes:=[(1000000,T6,[]),(1000001,T6,[])]} [(Ty.sl Ty.zD),T6,T6,T6,T6] (zh (zl.r0 N) N))] Proofs.Tryz.func141 (hL:=⟨⟨_,_,rfl,by kernel_rfl⟩,trivial⟩)⟩
def zgn (N:Nat) (a0:List zD) (a1:Int) (a2:Int):Option ((List zD)):=
 (zdk 40 a0).bind fun r1=>(zl N r1 a1 a2).bind fun r2=>some r2
def zgn.k (N:Nat):Kq:=⟨140,(ctv [.val (Ty.sl Ty.zD),.val T6,.val T6] [(Ty.sl Ty.zD)] [] [0] [(Ty.sl Ty.zD),T6,T6] (zgn N)),go [zl.k N,zu3.k] {} [] Proofs.Tryz.func140⟩
def zat.b0 (N:Nat) (s0:List zD) (s7:Int) (s8:Int) (b3:zD):Option (Round Int ((List zD) × Int × Int × zD)):=
 cond (decide (s8<s7)) ((idx s0 s8).bind fun x1001=>
  cond (zex [(b3.Register==x1001.Register),(b3.zF.Kind==x1001.zF.Kind),(b3.zF.Length==x1001.zF.Length),(b3.zF.Scale==x1001.zF.Scale),(b3.Offset==x1001.Offset)])
  (some (.result s8)) (some (.again (s0,s7,(w6 (s8+1)),b3)))) (some (.leave (s0,s7,s8,b3)))
def zat.r0 (N:Nat) (x:(List zD) × Int × Int × zD):=zat.b0 N x.1 x.2.1 x.2.2.1 x.2.2.2
def zat (N:Nat) (a0:List zD) (a1:zD):Option Int:=
 (zo (zat.r0 N) N (a0,(a0.length:Int),0,a1)).bind fun z2=>zbu z2 (fun z=>some z) (fun y1=>some (-1))
def zat.k (N:Nat):Kq:=⟨162,(cvv [T6] [(Ty.sl Ty.zD),Ty.zD] (zat N)),go [] {} [(0,.rets {slots:=[(0,.val (Ty.sl Ty.zD)),(3,.ptr 3 0),(7,.val T6),(8,.val T6)],boxes:=[(3,Ty.zD,[])]} [(Ty.sl Ty.zD),T6,T6,Ty.zD] (zo (zat.r0 N) N))] Proofs.Tryz.func162 (hL:=⟨⟨_,_,rfl,by kernel_rfl⟩,trivial⟩)⟩
def zbm (N:Nat) (a0:List zD) (a1:zD):Option Bool:=
 (zat N a0 a1).bind fun r1=>some (decide (r1≥0))
def zbm.k (N:Nat):Kq:=⟨97,(cvv [Ty.bool] [(Ty.sl Ty.zD),Ty.zD] (zbm N)),go [zat.k N] {} [] Proofs.Tryz.func97⟩
def zhj (N:Nat) (a0:zB) (a1:List zD):Option ((List zD)):=
 cond a0.Place.Based ((zjj N a1).bind fun r1=>some r1) ((zg9 N a0.zF).bind fun r2=>(zgn N a1 a0.Place.Offset r2).bind fun r3=>
  (cond (a0.Op==1) ((zbm N a1 (⟨a0.R,a0.zF,(-1)⟩:zD)).bind fun r4=>some r4) (some false)).bind fun g5=>
  cond g5 (cond (Nat.ble ((r3.length+([(⟨a0.R,a0.zF,a0.Place.Offset⟩:zD)]:List zD).length)*40) zr)
  (some (r3++([(⟨a0.R,a0.zF,a0.Place.Offset⟩:zD)]:List zD))) none) (some r3))
def zhj.k (N:Nat):Kq:=⟨139,(ctv [.val Ty.zB,.val (Ty.sl Ty.zD)] [(Ty.sl Ty.zD)] [] [0] [Ty.zB,(Ty.sl Ty.zD)] (zhj N)),go [zbm.k N,zgn.k N,zg9.k N,zjj.k N] {lits:=[17,40]} [] Proofs.Tryz.func139⟩
def z1z:Ct U:={params:=[.mov Ty.zD],results:=[(Ty.sl Ty.zD)],outs:=[],fresh:=[0],fn:=app U [(Ty.sl Ty.zD)] (R:=PT U [(Ty.sl Ty.zD)]) (zpr Proofs.Tryz.ltF Proofs.Tryz.okF)}
theorem z1z.meets:ziv (ztv [] [] [] [] [] [] [] []) 135 z1z:=z3q
def z1z.k:Kq:=⟨135,z1z,z1z.meets⟩
def zh2 (N:Nat) (a0:zB) (a1:List zD):Option ((List zD)):=
 cond (a0.Op==0) ((zbx N a0 a1).bind fun r1=>(zpr Proofs.Tryz.ltF Proofs.Tryz.okF r1).bind fun r2=>some r2) (cond (a0.Op==4)
  ((zd3 N a1 a0.R).bind fun r3=>cond (Nat.ble ((r3.length+([(⟨a0.R,a0.zF,(-1)⟩:zD)]:List zD).length)*40) zr)
  ((zpr Proofs.Tryz.ltF Proofs.Tryz.okF (r3++([(⟨a0.R,a0.zF,(-1)⟩:zD)]:List zD))).bind fun r4=>some r4) none) ((cond (a0.Op==2) (some (a0.Op==2))
  (some (a0.Op==21))).bind fun q5=>cond q5 ((zd3 N a1 a0.R).bind fun r6=>some r6) (cond (a0.Op==3) ((zd3 N a1 a0.R).bind fun r7=>
  (zbn N a1 a0.A a0.R).bind fun r8=>cond (Nat.ble ((r7.length+r8.length)*40) zr) ((zpr Proofs.Tryz.ltF Proofs.Tryz.okF (r7++r8)).bind fun r9=>some r9) none)
  ((cond (a0.Op==1) (some (a0.Op==1)) (cond (a0.Op==9) (some (a0.Op==9)) (some (a0.Op==10)))).bind fun q10=>cond q10 ((zhj N a0 a1).bind fun r11=>
  (zpr Proofs.Tryz.ltF Proofs.Tryz.okF r11).bind fun r12=>some r12) ((cond (a0.Op==14) (some (a0.Op==14)) (cond (a0.Op==15) (some (a0.Op==15))
  (some (a0.Op==16)))).bind fun q13=>cond q13 ((zgn N a1 a0.Pointer 16).bind fun r14=>some r14) (some a1))))))
def zh2.k (N:Nat):Kq:=⟨77,(cvv [(Ty.sl Ty.zD)] [Ty.zB,(Ty.sl Ty.zD)] (zh2 N)),go [z1z.k,zbx.k N,zd3.k N,zbn.k N,zhj.k N,zgn.k N] {lits:=[24,45],bj:=[27,48,56]} [] Proofs.Tryz.func77⟩
def zel (N:Nat) (a0:zD) (a1:List zD):Option Bool:=
 (zbm N a1 a0).bind fun r1=>some (!r1)
def zel.k (N:Nat):Kq:=⟨143,(ctv [.val Ty.zD,.ptr (Ty.sl Ty.zD) false []] [Ty.bool] [] [] [Ty.zD,(Ty.sl Ty.zD)] (zel N)),go [zbm.k N] {ro:=[1000000],pk:=[1000000]} [] Proofs.Tryz.func143⟩
def zaa.b0 (N:Nat) (s0:List zD) (s7:Int) (s8:Int) (b1000000:List zD):Option (Round Int ((List zD) × Int × Int × (List zD))):=
 cond (decide (s8<s7)) ((idx s0 s8).bind fun x1001=>(zel N x1001 b1000000).bind fun r1002=>cond r1002 (some (.result s8))
  (some (.again (s0,s7,(w6 (s8+1)),b1000000)))) (some (.leave (s0,s7,s8,b1000000)))
def zaa.r0 (N:Nat) (x:(List zD) × Int × Int × (List zD)):=zaa.b0 N x.1 x.2.1 x.2.2.1 x.2.2.2
def zaa (N:Nat) (a0:List zD) (a1:List zD):Option Int:=
 (zo (zaa.r0 N) N (a0,(a0.length:Int),0,a1)).bind fun z2=>zbu z2 (fun z=>some z) (fun y1=>some (-1))
def zaa.k (N:Nat):Kq:=⟨161,(ctv [.val (Ty.sl Ty.zD),.clo 143 1,.ptr (Ty.sl Ty.zD) false []] [T6] [] [] [(Ty.sl Ty.zD),(Ty.sl Ty.zD)] (zaa N)),go [zel.k N] {ro:=[1000000],pk:=[1000000]} [(0,.rets {slots:=[(0,.val (Ty.sl Ty.zD)),(1,.fn 143 [1000000]),(7,.val T6),(8,.val T6)],boxes:=[(1000000,(Ty.sl Ty.zD),[])]} [(Ty.sl Ty.zD),T6,T6,(Ty.sl Ty.zD)] (zo (zaa.r0 N) N))] Proofs.Tryz.func161 (hL:=⟨⟨_,_,rfl,by kernel_rfl⟩,trivial⟩)⟩
def zn.b0 (N:Nat) (s0:List zD) (s5:Int) (s6:Int) (b1000000:List zD):Option (Stp ((List zD) × Int × Int × (List zD))):=
 cond (decide (s6<(s0.length:Int))) (if 0≤s6 then(if s6<(s0.length:Int)then((s0[s6.toNat]?).bind fun x1001=>(zel N x1001 b1000000).bind fun r1002=>
  cond (!r1002) (if 0≤s5 then(if s5<(s0.length:Int)then((s0[s5.toNat]?).bind fun x1003=>
  some (.again ((s0.set s5.toNat x1001),(w6 (s5+1)),(w6 (s6+1)),b1000000)))else none)else none)
  (some (.again (s0,s5,(w6 (s6+1)),b1000000))))else none)else none) (some (.leave (s0,s5,s6,b1000000)))
def zn.r0 (N:Nat) (x:(List zD) × Int × Int × (List zD)):=zn.b0 N x.1 x.2.1 x.2.2.1 x.2.2.2
def zn (N:Nat) (a0:List zD) (a1:List zD):Option ((List zD)):=
 (zaa N a0 a1).bind fun r1=>cond (r1==(-1)) (some a0)
  ((zh (zn.r0 N) N (a0,r1,(w6 (r1+1)),a1)).bind fun y2=>
  if 0≤y2.2.1∧y2.2.1≤(y2.1.length:Int)then(if 0≤y2.2.1∧y2.2.1≤((y2.1.take y2.2.1.toNat++List.replicate (y2.1.length-y2.2.1.toNat)
  ((⟨0,(⟨0,0,0⟩:DataType),0⟩:zD):zD)).length:Int)then(if 0≤(0:Int)∧(0:Int)≤y2.2.1 then(some (((y2.1.take y2.2.1.toNat++List.replicate (y2.1.length-y2.2.1.toNat)
  ((⟨0,(⟨0,0,0⟩:DataType),0⟩:zD):zD)).drop ((0:Int).toNat)).take (y2.2.1.toNat-(0:Int).toNat)))else none)else none)else none)
def zn.k (N:Nat):Kq:=⟨141,(ctv [.mov Ty.zD,.clo 143 1,.ptr (Ty.sl Ty.zD) false []] [(Ty.sl Ty.zD)] [] [0] [(Ty.sl Ty.zD),(Ty.sl Ty.zD)] (zn N)),go [zel.k N,zaa.k N] {ro:=[1000000],pk:=[1000000]} [(0,.plain {slots:=[(0,.own 5000000 Ty.zD),(1,.fn 143 [1000000]),(5,.val T6),(6,.val T6)],boxes:=[(1000000,(Ty.sl Ty.zD),[])]} [(Ty.sl Ty.zD),T6,T6,(Ty.sl Ty.zD)] (zh (zn.r0 N) N))] Proofs.Tryz.func141 (hL:=⟨⟨_,_,rfl,by kernel_rfl⟩,trivial⟩)⟩
def zh1 (N:Nat) (a0:List zD) (a1:List zD):Option ((List zD)):=
 (zdk 40 a0).bind fun r1=>(zn N r1 a1).bind fun r2=>some r2
def zh1.k (N:Nat):Kq:=⟨79,(cvv [(Ty.sl Ty.zD)] [(Ty.sl Ty.zD),(Ty.sl Ty.zD)] (zh1 N)),go [zn.k N,zu3.k] {} [] Proofs.Tryz.func79⟩
def zi.b0 (N:Nat) (s3:List Bool) (s4:List Bool) (s5:List (List zD)) (s6:List Bool) (s7:List Int) (s28:Int) (s29:Int) (b1:zH):Option (Stp ((List Bool) × (List Bool) × (List (List zD)) × (List Bool) × (List Int) × Int × Int × zH)):=
 cond (decide (s29<s28)) ((idx s3 s29).bind fun x1001=>(cond x1001 (some true) ((idx s4 s29).bind fun x1002=>some (!x1002))).bind fun g1003=>
  cond g1003 (if 0≤s29 then(if s29<(s6.length:Int)then((s6[s29.toNat]?).bind fun x1004=>cond (Nat.ble ((s7.length+([s29]:List Int).length)*8) zr)
  (some (.again (s3,s4,s5,(s6.set s29.toNat true),(s7++([s29]:List Int)),s28,(w6 (s29+1)),b1))) none)else none)else none)
  (some (.again (s3,s4,s5,s6,s7,s28,(w6 (s29+1)),b1)))) (some (.leave (s3,s4,s5,s6,s7,s28,s29,b1)))
def zi.r0 (N:Nat) (x:(List Bool) × (List Bool) × (List (List zD)) × (List Bool) × (List Int) × Int × Int × zH):=zi.b0 N x.1 x.2.1 x.2.2.1 x.2.2.2.1 x.2.2.2.2.1 x.2.2.2.2.2.1 x.2.2.2.2.2.2.1 x.2.2.2.2.2.2.2
def zi.b4 (N:Nat) (s3:List Bool) (s4:List Bool) (s5:List (List zD)) (s6:List Bool) (s10:List zD) (s71:List Int) (s72:Int) (s73:Int) (s7:List Int) (b1:zH):Option (Stp ((List Bool) × (List Bool) × (List (List zD)) × (List Bool) × (List zD) × (List Int) × Int × Int × (List Int) × zH)):=
 cond (decide (s73<s72)) ((idx s71 s73).bind fun x5001=>(idx s3 x5001).bind fun x5002=>(cond x5002 (some true) ((idx s4 x5001).bind fun x5003=>
  some (!x5003))).bind fun g5004=>cond g5004 (some (.again (s3,s4,s5,s6,s10,s71,s72,(w6 (s73+1)),s7,b1)))
  (if 0≤x5001 then(if x5001<(s6.length:Int)then((s6[x5001.toNat]?).bind fun x5005=>
  cond x5005 (if 0≤x5001 then(if x5001<(s5.length:Int)then((s5[x5001.toNat]?).bind fun x5006=>(zh1 N x5006 s10).bind fun r5007=>
  if 0≤x5001 then(if x5001<(s6.length:Int)then((s6[x5001.toNat]?).bind fun x5008=>(cond (!x5008) (some true)
  (if 0≤x5001 then(if x5001<(s5.length:Int)then((s5[x5001.toNat]?).bind fun x5009=>
  some (decide ((r5007.length:Int)<(x5009.length:Int))))else none)else none)).bind fun g5010=>
  cond g5010 (if 0≤x5001 then(if x5001<(s6.length:Int)then((s6[x5001.toNat]?).bind fun x5011=>
  if 0≤x5001 then(if x5001<(s5.length:Int)then((s5[x5001.toNat]?).bind fun x5012=>cond (Nat.ble ((s7.length+([x5001]:List Int).length)*8) zr)
  (some (.again (s3,s4,(s5.set x5001.toNat r5007),(s6.set x5001.toNat true),s10,s71,s72,(w6 (s73+1)),(s7++([x5001]:List Int)),b1))) none)else none)else none)else none)else none)
  (some (.again (s3,s4,s5,s6,s10,s71,s72,(w6 (s73+1)),s7,b1))))else none)else none)else none)else none)
  (if 0≤x5001 then(if x5001<(s6.length:Int)then((s6[x5001.toNat]?).bind fun x5013=>(cond (!x5013) (some true)
  (if 0≤x5001 then(if x5001<(s5.length:Int)then((s5[x5001.toNat]?).bind fun x5014=>
  some (decide ((s10.length:Int)<(x5014.length:Int))))else none)else none)).bind fun g5015=>
  cond g5015 (if 0≤x5001 then(if x5001<(s6.length:Int)then((s6[x5001.toNat]?).bind fun x5016=>
  if 0≤x5001 then(if x5001<(s5.length:Int)then((s5[x5001.toNat]?).bind fun x5017=>cond (Nat.ble ((s7.length+([x5001]:List Int).length)*8) zr)
  (some (.again (s3,s4,(s5.set x5001.toNat s10),(s6.set x5001.toNat true),s10,s71,s72,(w6 (s73+1)),(s7++([x5001]:List Int)),b1))) none)else none)else none)else none)else none)
  (some (.again (s3,s4,s5,s6,s10,s71,s72,(w6 (s73+1)),s7,b1))))else none)else none))else none)else none))
  (some (.leave (s3,s4,s5,s6,s10,s71,s72,s73,s7,b1)))
def zi.r4 (N:Nat) (x:(List Bool) × (List Bool) × (List (List zD)) × (List Bool) × (List zD) × (List Int) × Int × Int × (List Int) × zH):=zi.b4 N x.1 x.2.1 x.2.2.1 x.2.2.2.1 x.2.2.2.2.1 x.2.2.2.2.2.1 x.2.2.2.2.2.2.1 x.2.2.2.2.2.2.2.1 x.2.2.2.2.2.2.2.2.1 x.2.2.2.2.2.2.2.2.2
def zi.b2 (N:Nat) (s3:List Bool) (s4:List Bool) (s5:List (List zD)) (s6:List Bool) (s7:List Int) (b1:zH):Option (Stp ((List Bool) × (List Bool) × (List (List zD)) × (List Bool) × (List Int) × zH)):=
 cond (decide ((s7.length:Int)>0)) (if 0≤(0:Int)then(if(0:Int)<(s7.length:Int)then((s7[(0:Int).toNat]?).bind fun x3001=>
  if 0≤(1:Int)∧(1:Int)≤(s7.length:Int)then((idx b1.zA x3001).bind fun x3002=>
  if 0≤x3001 then(if x3001<(s5.length:Int)then((s5[x3001.toNat]?).bind fun x3003=>(zh2 N x3002 x3003).bind fun r3004=>
  (zea b1 x3001).bind fun r3005=>
  (zh (zi.r4 N) N (s3,s4,s5,s6,r3004,r3005,(r3005.length:Int),0,(s7.drop ((1:Int).toNat)),b1)).bind fun y3006=>
  some (.again (y3006.1,y3006.2.1,y3006.2.2.1,y3006.2.2.2.1,y3006.2.2.2.2.2.2.2.2.1,y3006.2.2.2.2.2.2.2.2.2)))else none)else none)else none)else none)else none)
  (some (.leave (s3,s4,s5,s6,s7,b1)))
def zi.r2 (N:Nat) (x:(List Bool) × (List Bool) × (List (List zD)) × (List Bool) × (List Int) × zH):=zi.b2 N x.1 x.2.1 x.2.2.1 x.2.2.2.1 x.2.2.2.2.1 x.2.2.2.2.2
def zi (N:Nat) (a0:zH):Option ((List (List zD))):=
 (zaf N a0).bind fun r1=>(zae N a0 r1).bind fun r2=>
  if 0≤(a0.zA.length:Int)then(if(a0.zA.length:Int)≤(a0.zA.length:Int)then(cond (Nat.ble ((a0.zA.length:Int).toNat*24) zr)
  (if 0≤(a0.zA.length:Int)then(if(a0.zA.length:Int)≤(a0.zA.length:Int)then(cond (Nat.ble ((a0.zA.length:Int).toNat*1) zr)
  ((zh (zi.r0 N) N (r1,r2,(List.replicate (a0.zA.length:Int).toNat ([]:List zD)),(List.replicate (a0.zA.length:Int).toNat (false:Bool)),[],((List.replicate (a0.zA.length:Int).toNat ([]:List zD)).length:Int),0,a0)).bind fun y3=>
  (zh (zi.r2 N) N (y3.1,y3.2.1,y3.2.2.1,y3.2.2.2.1,y3.2.2.2.2.1,y3.2.2.2.2.2.2.2)).bind fun y4=>
  some y4.2.2.1) none)else none)else none) none)else none)else none
def zi.k (N:Nat):Kq:=⟨31,(cvv [(Ty.sl (Ty.sl Ty.zD))] [Ty.zH] (zi N)),go [zaf.k N,zae.k N,zh2.k N,zea.k,zh1.k N] {lits:=[48,123]} [(0,.plain {slots:=[(1,.ptr 1 0),(3,.val (Ty.sl Ty.bool)),(4,.val (Ty.sl Ty.bool)),(5,.own 5000005 (Ty.sl Ty.zD)),(6,.own 5000006 Ty.bool),(7,.own 5000007 T6),(28,.val T6),(29,.val T6)],boxes:=[(1,Ty.zH,[])]} [(Ty.sl Ty.bool),(Ty.sl Ty.bool),(Ty.sl (Ty.sl Ty.zD)),(Ty.sl Ty.bool),(Ty.sl T6),T6,T6,Ty.zH] (zh (zi.r0 N) N)),(4,.plain {slots:=[(1,.ptr 1 0),(3,.val (Ty.sl Ty.bool)),(4,.val (Ty.sl Ty.bool)),(5,.own 5000005 (Ty.sl Ty.zD)),(6,.own 5000006 Ty.bool),(10,.val (Ty.sl Ty.zD)),(71,.val (Ty.sl T6)),(72,.val T6),(73,.val T6),(7,.own 5000007 T6)],boxes:=[(1,Ty.zH,[])]} [(Ty.sl Ty.bool),(Ty.sl Ty.bool),(Ty.sl (Ty.sl Ty.zD)),(Ty.sl Ty.bool),(Ty.sl Ty.zD),(Ty.sl T6),T6,T6,(Ty.sl T6),Ty.zH] (zh (zi.r4 N) N)),(2,.plain {slots:=[(1,.ptr 1 0),(3,.val (Ty.sl Ty.bool)),(4,.val (Ty.sl Ty.bool)),(5,.own 5000005 (Ty.sl Ty.zD)),(6,.own 5000006 Ty.bool),(7,.own 5000007 T6)],boxes:=[(1,Ty.zH,[])]} [(Ty.sl Ty.bool),(Ty.sl Ty.bool),(Ty.sl (Ty.sl Ty.zD)),(Ty.sl Ty.bool),(Ty.sl T6),Ty.zH] (zh (zi.r2 N) N))] Proofs.Tryz.func31 (hL:=⟨⟨_,_,rfl,by kernel_rfl⟩,⟨_,_,rfl,by kernel_rfl⟩,⟨_,_,rfl,by kernel_rfl⟩,trivial⟩)⟩
def zhd (a0:List zD):Option Bool:=
 some (decide ((a0.length:Int)>60))
def zhd.k:Kq:=⟨33,(cvv [Ty.bool] [(Ty.sl Ty.zD)] zhd),go [] {} [] Proofs.Tryz.func33⟩
def zab.b0 (N:Nat) (s0:List (List zD)) (s7:Int) (s8:Int):Option (Round Int ((List (List zD)) × Int × Int)):=
 cond (decide (s8<s7)) ((idx s0 s8).bind fun x1001=>(zhd x1001).bind fun r1002=>cond r1002 (some (.result s8))
  (some (.again (s0,s7,(w6 (s8+1)))))) (some (.leave (s0,s7,s8)))
def zab.r0 (N:Nat) (x:(List (List zD)) × Int × Int):=zab.b0 N x.1 x.2.1 x.2.2
def zab (N:Nat) (a0:List (List zD)):Option Int:=
 (zo (zab.r0 N) N (a0,(a0.length:Int),0)).bind fun z2=>zbu z2 (fun z=>some z) (fun y1=>some (-1))
def zab.k (N:Nat):Kq:=⟨80,(ctv [.val (Ty.sl (Ty.sl Ty.zD)),.clo 33 0] [T6] [] [] [(Ty.sl (Ty.sl Ty.zD))] (zab N)),go [zhd.k] {} [(0,.rets {slots:=[(0,.val (Ty.sl (Ty.sl Ty.zD))),(1,.fn 33 []),(7,.val T6),(8,.val T6)],boxes:=[]} [(Ty.sl (Ty.sl Ty.zD)),T6,T6] (zo (zab.r0 N) N))] Proofs.Tryz.func80 (hL:=⟨⟨_,_,rfl,by kernel_rfl⟩,trivial⟩)⟩
def zce (N:Nat) (a0:List (List zD)):Option Bool:=
 (zab N a0).bind fun r1=>some (decide (r1≥0))
def zce.k (N:Nat):Kq:=⟨32,(ctv [.val (Ty.sl (Ty.sl Ty.zD)),.clo 33 0] [Ty.bool] [] [] [(Ty.sl (Ty.sl Ty.zD))] (zce N)),go [zab.k N] {} [] Proofs.Tryz.func32⟩
def zd4 (N:Nat) (a0:zJ) (a1:zH):Option ((List (List zD)) × Int):=
 (zhk N a0 a1).bind fun r1=>cond (r1 !=0) (some ([],r1)) ((zi N a1).bind fun r2=>(zce N r2).bind fun r3=>
  cond r3 (some ([],2)) (some (r2,0)))
def zd4.k (N:Nat):Kq:=⟨8,(cvv [(Ty.sl (Ty.sl Ty.zD)),T6] [Ty.zJ,Ty.zH] (zd4 N)),go [zhk.k N,zi.k N,zce.k N] {} [] Proofs.Tryz.func8⟩
def zfl (a0:zB):Option Bool:=
 (cond (a0.Op==0) (some (!a0.Place.Based)) (some false)).bind fun g1=>some g1
def zfl.k:Kq:=⟨56,(cvv [Ty.bool] [Ty.zB] zfl),go [] {} [] Proofs.Tryz.func56⟩
def zit (N:Nat) (a0:List zD) (a1:zB) (a2:Int):Option Bool:=
 (zbm N a0 (⟨a2,a1.zF,a1.Place.Offset⟩:zD)).bind fun r1=>some r1
def zit.k (N:Nat):Kq:=⟨57,(cvv [Ty.bool] [(Ty.sl Ty.zD),Ty.zB,T6] (zit N)),go [zbm.k N] {} [] Proofs.Tryz.func57⟩
def zfi.b0 (N:Nat) (s3:List Int) (s4:Int) (s8:List Int) (s9:Int) (s10:Int):Option (Stp ((List Int) × Int × (List Int) × Int × Int)):=
 cond (decide (s10<s9)) ((idx s8 s10).bind fun x1001=>cond (x1001 !=(-1)) (cond (Nat.ble ((s3.length+([(w6 (s4+1))]:List Int).length)*8) zr)
  (some (.again ((s3++([(w6 (s4+1))]:List Int)),(w6 (s4+1)),s8,s9,(w6 (s10+1))))) none)
  (cond (Nat.ble ((s3.length+([s4]:List Int).length)*8) zr) (some (.again ((s3++([s4]:List Int)),s4,s8,s9,(w6 (s10+1))))) none))
  (some (.leave (s3,s4,s8,s9,s10)))
def zfi.r0 (N:Nat) (x:(List Int) × Int × (List Int) × Int × Int):=zfi.b0 N x.1 x.2.1 x.2.2.1 x.2.2.2.1 x.2.2.2.2
def zfi (N:Nat) (a0:List Int):Option ((List Int)):=
 (zh (zfi.r0 N) N (([0]:List Int),0,a0,(a0.length:Int),0)).bind fun y1=>some y1.1
def zfi.k (N:Nat):Kq:=⟨47,(cvv [(Ty.sl T6)] [(Ty.sl T6)] (zfi N)),go [] {lits:=[20]} [(0,.plain {slots:=[(3,.own 5000003 T6),(4,.val T6),(8,.val (Ty.sl T6)),(9,.val T6),(10,.val T6)],boxes:=[]} [(Ty.sl T6),T6,(Ty.sl T6),T6,T6] (zh (zfi.r0 N) N))] Proofs.Tryz.func47 (hL:=⟨⟨_,_,rfl,by kernel_rfl⟩,trivial⟩)⟩
def zfg.b0 (N:Nat) (s1:List Int) (s5:List zT) (s8:List zT) (s9:Int) (s10:Int):Option (Stp ((List Int) × (List zT) × (List zT) × Int × Int)):=
 cond (decide (s10<s9)) ((idx s8 s10).bind fun x1001=>(idx s1 x1001.From).bind fun x1002=>(idx s1 x1001.To).bind fun x1003=>(idx s1 x1001.Handler).bind fun x1004=>
  cond (Nat.ble ((s5.length+([(⟨x1002,x1003,x1001.Exception,x1004⟩:zT)]:List zT).length)*32) zr)
  (some (.again (s1,(s5++([(⟨x1002,x1003,x1001.Exception,x1004⟩:zT)]:List zT)),s8,s9,(w6 (s10+1))))) none) (some (.leave (s1,s5,s8,s9,s10)))
def zfg.r0 (N:Nat) (x:(List Int) × (List zT) × (List zT) × Int × Int):=zfg.b0 N x.1 x.2.1 x.2.2.1 x.2.2.2.1 x.2.2.2.2
def zfg (N:Nat) (a0:List zT) (a1:List Int):Option ((List zT)):=
 (zh (zfg.r0 N) N (a1,[],a0,(a0.length:Int),0)).bind fun y1=>some y1.2.1
def zfg.k (N:Nat):Kq:=⟨50,(cvv [(Ty.sl Ty.zT)] [(Ty.sl Ty.zT),(Ty.sl T6)] (zfg N)),go [] {lits:=[33]} [(0,.plain {slots:=[(1,.val (Ty.sl T6)),(5,.own 5000005 Ty.zT),(8,.val (Ty.sl Ty.zT)),(9,.val T6),(10,.val T6)],boxes:=[]} [(Ty.sl T6),(Ty.sl Ty.zT),(Ty.sl Ty.zT),T6,T6] (zh (zfg.r0 N) N))] Proofs.Tryz.func50 (hL:=⟨⟨_,_,rfl,by kernel_rfl⟩,trivial⟩)⟩
def ze2.b0 (N:Nat) (s0:List zD) (s11:List zD) (s12:Int) (s13:Int) (b3:zB) (b4:zB):Option (Round zB ((List zD) × (List zD) × Int × Int × zB × zB)):=
 cond (decide (s13<s12)) ((idx s11 s13).bind fun x1001=>(cond (x1001.Register !=b3.R) ((zit N s0 b3 x1001.Register).bind fun r1002=>some r1002)
  (some false)).bind fun g1003=>
  cond g1003 (some (.result (⟨3,b3.R,x1001.Register,0,0,(⟨false,0,0⟩:zN),(⟨false,0,0⟩:zN),(⟨0,0,0⟩:DataType),(⟨0,0,0⟩:DataType),false,false,(⟨0,0⟩:Number),(⟨#[]⟩:ByteArray),(⟨#[]⟩:ByteArray),0,0,0,0⟩:zB)))
  (some (.again (s0,s11,s12,(w6 (s13+1)),b3,b4)))) (some (.leave (s0,s11,s12,s13,b3,b4)))
def ze2.r0 (N:Nat) (x:(List zD) × (List zD) × Int × Int × zB × zB):=ze2.b0 N x.1 x.2.1 x.2.2.1 x.2.2.2.1 x.2.2.2.2.1 x.2.2.2.2.2
def ze2 (N:Nat) (a0:List zD) (a1:zB):Option zB:=
 (zfl a1).bind fun r1=>cond (!r1) (some a1)
  ((zo (ze2.r0 N) N (a0,a0,(a0.length:Int),0,a1,(⟨0,0,0,0,0,(⟨false,0,0⟩:zN),(⟨false,0,0⟩:zN),(⟨0,0,0⟩:DataType),(⟨0,0,0⟩:DataType),false,false,(⟨0,0⟩:Number),(⟨#[]⟩:ByteArray),(⟨#[]⟩:ByteArray),0,0,0,0⟩:zB))).bind fun z3=>
  zbu z3 (fun z=>some z) (fun y2=>some y2.2.2.2.2.1))
def ze2.k (N:Nat):Kq:=⟨60,(cvv [Ty.zB] [(Ty.sl Ty.zD),Ty.zB] (ze2 N)),go [zfl.k,zit.k N] {} [(0,.rets {slots:=[(0,.val (Ty.sl Ty.zD)),(3,.ptr 3 0),(4,.ptr 4 0),(11,.val (Ty.sl Ty.zD)),(12,.val T6),(13,.val T6)],boxes:=[(3,Ty.zB,[]),(4,Ty.zB,[])]} [(Ty.sl Ty.zD),(Ty.sl Ty.zD),T6,T6,Ty.zB,Ty.zB] (zo (ze2.r0 N) N))] Proofs.Tryz.func60 (hL:=⟨⟨_,_,rfl,by kernel_rfl⟩,trivial⟩)⟩
def zlu (a0:zB) (a1:List Int):Option zB:=
 (zds a0.Op).bind fun r1=>cond r1 ((idx a1 a0.Target).bind fun x2=>
  some (⟨a0.Op,a0.R,a0.A,a0.B,a0.zM,a0.Place,a0.From,a0.zF,a0.Second,a0.Half,a0.zP,a0.Number,a0.Text,a0.Other,a0.Mask,x2,a0.Pointer,a0.Source⟩:zB))
  (some a0)
def zlu.k:Kq:=⟨59,(cvv [Ty.zB] [Ty.zB,(Ty.sl T6)] zlu),go [zds.k] {} [] Proofs.Tryz.func59⟩
def x58:Ct U:={params:=[.val (Ty.sl Ty.bool)],results:=[(Ty.sl Ty.bool)],outs:=[],fresh:=[0],fn:=app U [(Ty.sl Ty.bool)] (R:=PT U [(Ty.sl Ty.bool)]) (zdk 1)}
theorem x58.meets:ziv (ztv [] [] [] [] [] [] [] []) 58 x58:=
 zy5 z3x (z44 (l:=[]) rfl all_nil) (z31 (l:=[]) rfl all_nil) (Lp:=pick []) Proofs.Tryz.func58 (by kernel_rfl) (z5g (l:=[]) rfl all_nil) (fun y=>by kernel_rfl) (e:=4) (t:=Ty.bool) rfl rfl rfl rfl rfl rfl rfl (by kernel_rfl) rfl rfl rfl rfl rfl rfl (fun xs=>by kernel_rfl) fun ds y h=>by
  obtain⟨xs,rfl,hx⟩:=z9t h;refine⟨xs,rfl,fun b hb=> ?_⟩;cases b with
  | true=>
   have:=hb rfl;subst this;exact Eq.trans (by kernel_rfl) hx
  | false=>exact Eq.trans (b:=cond (Nat.ble ((0+xs.length)*1) zr) (some xs) none) (by kernel_rfl) (by rw [Nat.zero_add];exact hx)
def x58.k:Kq:=⟨58,x58,x58.meets⟩
def zbz.b0 (N:Nat) (s7:List (List zD)) (s9:List Int) (s10:Int) (s29:List zB) (s30:Int) (s31:Int) (b3:zH) (b4:zH) (b5:yC):Option (Stp ((List (List zD)) × (List Int) × Int × (List zB) × Int × Int × zH × zH × yC)):=
 cond (decide (s31<s30)) ((idx s29 s31).bind fun x1001=>(cond (decide (s31<(w6 ((b3.zA.length:Int)-1))))
  ((zfl x1001).bind fun r1002=>some r1002) (some false)).bind fun g1003=>(cond g1003 ((idx s7 s31).bind fun x1004=>
  (zit N x1004 x1001 x1001.R).bind fun r1005=>some r1005) (some false)).bind fun g1006=>
  cond g1006 (cond (Nat.ble ((s9.length+([(-1)]:List Int).length)*8) zr)
  (some (.again (s7,(s9++([(-1)]:List Int)),s10,s29,s30,(w6 (s31+1)),b3,b4,b5))) none)
  (cond (Nat.ble ((s9.length+([s10]:List Int).length)*8) zr)
  (some (.again (s7,(s9++([s10]:List Int)),(w6 (s10+1)),s29,s30,(w6 (s31+1)),b3,b4,b5))) none))
  (some (.leave (s7,s9,s10,s29,s30,s31,b3,b4,b5)))
def zbz.r0 (N:Nat) (x:(List (List zD)) × (List Int) × Int × (List zB) × Int × Int × zH × zH × yC):=zbz.b0 N x.1 x.2.1 x.2.2.1 x.2.2.2.1 x.2.2.2.2.1 x.2.2.2.2.2.1 x.2.2.2.2.2.2.1 x.2.2.2.2.2.2.2.1 x.2.2.2.2.2.2.2.2
def zbz.b2 (N:Nat) (s7:List (List zD)) (s9:List Int) (s13:List Int) (s82:List zB) (s83:Int) (s84:Int) (b4:zH) (b5:yC) (b14:zH):Option (Stp ((List (List zD)) × (List Int) × (List Int) × (List zB) × Int × Int × zH × yC × zH)):=
 cond (decide (s84<s83)) ((idx s82 s84).bind fun x3001=>(idx s9 s84).bind fun x3002=>cond (x3002 !=(-1)) ((idx s7 s84).bind fun x3003=>
  (ze2 N x3003 x3001).bind fun r3004=>(zlu r3004 s13).bind fun r3005=>
  cond (Nat.ble ((b14.zA.length+([r3005]:List zB).length)*224) zr)
  (some (.again (s7,s9,s13,s82,s83,(w6 (s84+1)),b4,b5,(⟨b14.Storage,(b14.zA++([r3005]:List zB)),b14.zS⟩:zH)))) none)
  (some (.again (s7,s9,s13,s82,s83,(w6 (s84+1)),b4,b5,b14)))) (some (.leave (s7,s9,s13,s82,s83,s84,b4,b5,b14)))
def zbz.r2 (N:Nat) (x:(List (List zD)) × (List Int) × (List Int) × (List zB) × Int × Int × zH × yC × zH):=zbz.b2 N x.1 x.2.1 x.2.2.1 x.2.2.2.1 x.2.2.2.2.1 x.2.2.2.2.2.1 x.2.2.2.2.2.2.1 x.2.2.2.2.2.2.2.1 x.2.2.2.2.2.2.2.2
def zbz (N:Nat) (a0:zJ) (a1:zH):Option (zH × yC × Int):=
 (zd4 N a0 a1).bind fun r1=>cond (r1.2 !=0) (some ((⟨(⟨(⟨#[]⟩:ByteArray),[]⟩:Storage),[],[]⟩:zH),(⟨[],[]⟩:yC),r1.2))
  ((zh (zbz.r0 N) N (r1.1,[],0,a1.zA,(a1.zA.length:Int),0,a1,(⟨(⟨(⟨#[]⟩:ByteArray),[]⟩:Storage),[],[]⟩:zH),(⟨[],[]⟩:yC))).bind fun y2=>
  (zfi N y2.2.1).bind fun r3=>(zdk 1 y2.2.2.2.2.2.2.1.Storage.Tags).bind fun r4=>(zfg N y2.2.2.2.2.2.2.1.zS r3).bind fun r5=>
  (zh (zbz.r2 N) N (y2.1,y2.2.1,r3,y2.2.2.2.2.2.2.1.zA,(y2.2.2.2.2.2.2.1.zA.length:Int),0,y2.2.2.2.2.2.2.2.1,y2.2.2.2.2.2.2.2.2,(⟨(⟨y2.2.2.2.2.2.2.1.Storage.Bytes,r4⟩:Storage),[],r5⟩:zH))).bind fun y6=>
  some (y6.2.2.2.2.2.2.2.2,(⟨y6.1,y6.2.1⟩:yC),0))
def zbz.k (N:Nat):Kq:=⟨24,(cvv [Ty.zH,Ty.yC,T6] [Ty.zJ,Ty.zH] (zbz N)),go [zd4.k N,zfi.k N,zfg.k N,zfl.k,zit.k N,x58.k,zlu.k,ze2.k N] {lits:=[57,61,101,103,104]} [(0,.plain {slots:=[(3,.ptr 3 0),(4,.ptr 4 0),(5,.ptr 5 0),(7,.val (Ty.sl (Ty.sl Ty.zD))),(9,.own 5000009 T6),(10,.val T6),(29,.val (Ty.sl Ty.zB)),(30,.val T6),(31,.val T6)],boxes:=[(3,Ty.zH,[]),(4,Ty.zH,[1,2,3]),(5,Ty.yC,[0,1])]} [(Ty.sl (Ty.sl Ty.zD)),(Ty.sl T6),T6,(Ty.sl Ty.zB),T6,T6,Ty.zH,Ty.zH,Ty.yC] (zh (zbz.r0 N) N)),(2,.plain {slots:=[(4,.ptr 4 0),(5,.ptr 5 0),(7,.val (Ty.sl (Ty.sl Ty.zD))),(9,.val (Ty.sl T6)),(13,.val (Ty.sl T6)),(14,.ptr 14 0),(82,.val (Ty.sl Ty.zB)),(83,.val T6),(84,.val T6)],boxes:=[(4,Ty.zH,[1,2,3]),(5,Ty.yC,[0,1]),(14,Ty.zH,[1,2])]} [(Ty.sl (Ty.sl Ty.zD)),(Ty.sl T6),(Ty.sl T6),(Ty.sl Ty.zB),T6,T6,Ty.zH,Ty.yC,Ty.zH] (zh (zbz.r2 N) N))] Proofs.Tryz.func24 (hL:=⟨⟨_,_,rfl,by kernel_rfl⟩,⟨_,_,rfl,by kernel_rfl⟩,trivial⟩)⟩
def zqk:Option zO:=
 some (⟨([(⟨(⟨#[65]⟩:ByteArray),0,(⟨1,3,0⟩:DataType),(⟨7,(⟨#[]⟩:ByteArray)⟩:Value),(⟨#[]⟩:ByteArray),0,0⟩:zK),(⟨(⟨#[79,78,69]⟩:ByteArray),4,(⟨1,1,0⟩:DataType),(⟨1,(⟨#[]⟩:ByteArray)⟩:Value),(⟨#[]⟩:ByteArray),0,0⟩:zK)]:List zK),([(⟨2,([0,0,1]:List Int)⟩:zR),(⟨17,([0]:List Int)⟩:zR),(⟨18,[]⟩:zR)]:List zR),[]⟩:zO)
def zqk.k:Kq:=⟨27,(cvv [Ty.zO] [] zqk),go [] {lits:=[8,10]} [] Proofs.Tryz.func27⟩
def zcg (a0:Bool) (a1:Int):Option Int:=
 cond a0 (some a1) (some 0)
def zcg.k:Kq:=⟨179,(cvv [T6] [Ty.bool,T6] zcg),go [] {} [] Proofs.Tryz.func179⟩
def zdu.b0 (N:Nat) (s5:List Int) (s6:Int) (s7:Int):Option (Round Int ((List Int) × Int × Int)):=
 cond (decide (s7<s6)) ((idx s5 s7).bind fun x1001=>cond (x1001 !=0) (some (.result x1001)) (some (.again (s5,s6,(w6 (s7+1)))))) (some (.leave (s5,s6,s7)))
def zdu.r0 (N:Nat) (x:(List Int) × Int × Int):=zdu.b0 N x.1 x.2.1 x.2.2
def zdu (N:Nat) (a0:List Int):Option Int:=
 (zo (zdu.r0 N) N (a0,(a0.length:Int),0)).bind fun z2=>zbu z2 (fun z=>some z) (fun y1=>some 0)
def zdu.k (N:Nat):Kq:=⟨178,(cvv [T6] [(Ty.sl T6)] (zdu N)),go [] {} [(0,.rets {slots:=[(5,.val (Ty.sl T6)),(6,.val T6),(7,.val T6)],boxes:=[]} [(Ty.sl T6),T6,T6] (zo (zdu.r0 N) N))] Proofs.Tryz.func178 (hL:=⟨⟨_,_,rfl,by kernel_rfl⟩,trivial⟩)⟩
def zga.b0 (N:Nat) (s15:List Int) (s16:Int) (s17:Int):Option (Round Bool ((List Int) × Int × Int)):=
 cond (decide (s17<s16)) (if 0≤s17 then(if s17<(s15.length:Int)then((s15[s17.toNat]?).bind fun x1001=>(cond (decide (65≤x1001)) (some (decide (x1001≤90)))
  (some false)).bind fun g1002=>(cond g1002 (some true) (some (x1001==35))).bind fun g1003=>(cond g1003 (some true) (some (x1001==36))).bind fun g1004=>
  (cond g1004 (some true) (some (x1001==64))).bind fun g1005=>(cond (decide (48≤x1001)) (some (decide (x1001≤57))) (some false)).bind fun g1006=>(cond g1006 (some true)
  (some (x1001==95))).bind fun g1007=>(cond g1007 (some true) (some (x1001==46))).bind fun g1008=>(cond (!g1005) ((cond (s17==0) (some true)
  (some (!g1008))).bind fun g1009=>some g1009) (some false)).bind fun g1010=>cond g1010 (some (.result false))
  (some (.again (s15,s16,(w6 (s17+1))))))else none)else none) (some (.leave (s15,s16,s17)))
def zga.r0 (N:Nat) (x:(List Int) × Int × Int):=zga.b0 N x.1 x.2.1 x.2.2
def zga (N:Nat) (a0:ByteArray):Option Bool:=
 (cond (a0.toList==(⟨#[]⟩:ByteArray).toList) (some true) (some (decide ((a0.size:Int)>10)))).bind fun g1=>cond g1 (some false)
  ((zo (zga.r0 N) N ((zmj a0),((zmj a0).length:Int),0)).bind fun z3=>zbu z3 (fun z=>some z) (fun y2=>some true))
def zga.k (N:Nat):Kq:=⟨255,(cvv [Ty.bool] [Ty.str] (zga N)),go [] {} [(0,.rets {slots:=[(15,.own 5000015 (Ty.int .u8)),(16,.val T6),(17,.val T6)],boxes:=[]} [(Ty.sl (Ty.int .u8)),T6,T6] (zo (zga.r0 N) N))] Proofs.Tryz.func255 (hL:=⟨⟨_,_,rfl,by kernel_rfl⟩,trivial⟩)⟩
def zl0 (a0:zK) (a1:ByteArray):Option Bool:=
 some (a0.Name.toList==a1.toList)
def zl0.k:Kq:=⟨263,(ctv [.val Ty.zK,.ptr Ty.str false []] [Ty.bool] [] [] [Ty.zK,Ty.str] zl0),go [] {ro:=[1000000],pk:=[1000000]} [] Proofs.Tryz.func263⟩
def za0.b0 (N:Nat) (s0:List zK) (s7:Int) (s8:Int) (b1000000:ByteArray):Option (Round Int ((List zK) × Int × Int × ByteArray)):=
 cond (decide (s8<s7)) ((idx s0 s8).bind fun x1001=>(zl0 x1001 b1000000).bind fun r1002=>cond r1002 (some (.result s8))
  (some (.again (s0,s7,(w6 (s8+1)),b1000000)))) (some (.leave (s0,s7,s8,b1000000)))
def za0.r0 (N:Nat) (x:(List zK) × Int × Int × ByteArray):=za0.b0 N x.1 x.2.1 x.2.2.1 x.2.2.2
def za0 (N:Nat) (a0:List zK) (a1:ByteArray):Option Int:=
 (zo (za0.r0 N) N (a0,(a0.length:Int),0,a1)).bind fun z2=>zbu z2 (fun z=>some z) (fun y1=>some (-1))
def za0.k (N:Nat):Kq:=⟨262,(ctv [.val (Ty.sl Ty.zK),.clo 263 1,.ptr Ty.str false []] [T6] [] [] [(Ty.sl Ty.zK),Ty.str] (za0 N)),go [zl0.k] {ro:=[1000000],pk:=[1000000]} [(0,.rets {slots:=[(0,.val (Ty.sl Ty.zK)),(1,.fn 263 [1000000]),(7,.val T6),(8,.val T6)],boxes:=[(1000000,Ty.str,[])]} [(Ty.sl Ty.zK),T6,T6,Ty.str] (zo (za0.r0 N) N))] Proofs.Tryz.func262 (hL:=⟨⟨_,_,rfl,by kernel_rfl⟩,trivial⟩)⟩
def zhs (N:Nat) (a0:List zK) (a1:ByteArray):Option Int:=
 (za0 N a0 a1).bind fun r1=>some r1
def zhs.k (N:Nat):Kq:=⟨185,(cvv [T6] [(Ty.sl Ty.zK),Ty.str] (zhs N)),go [za0.k N] {} [] Proofs.Tryz.func185⟩
def ze4 (a0:Int) (a1:Int) (a2:Int):Option Bool:=
 (cond (decide (a1≤a0)) (some (decide (a0≤a2))) (some false)).bind fun g1=>some g1
def ze4.k:Kq:=⟨256,(cvv [Ty.bool] [T6,T6,T6] ze4),go [] {} [] Proofs.Tryz.func256⟩
def zhb (a0:zK):Option Bool:=
 (cond (a0.Kind==0) (some true) (some (a0.Kind==1))).bind fun g1=>(cond g1 (some true) (some (a0.Kind==2))).bind fun g2=>(cond g2 (some true)
  (some (a0.Kind==4))).bind fun g3=>some g3
def zhb.k:Kq:=⟨258,(cvv [Ty.bool] [Ty.zK] zhb),go [] {} [] Proofs.Tryz.func258⟩
def zo9 (a0:zK):Option zK:=
 (zhb a0).bind fun r1=>cond r1 ((cond (a0.Kind==0) (some (a0.Kind==0)) (some (a0.Kind==4))).bind fun q2=>
  cond q2 (some (⟨a0.Name,a0.Kind,a0.zF,a0.Value,(⟨#[]⟩:ByteArray),0,0⟩:zK)) ((cond (a0.Kind==1) (some (a0.Kind==1)) (some (a0.Kind==2))).bind fun q3=>
  cond q3 (some (⟨a0.Name,a0.Kind,a0.zF,(⟨0,(⟨#[]⟩:ByteArray)⟩:Value),a0.Base,a0.Offset,0⟩:zK)) (cond (a0.Kind==5)
  (some (⟨a0.Name,a0.Kind,a0.zF,(⟨0,(⟨#[]⟩:ByteArray)⟩:Value),(⟨#[]⟩:ByteArray),0,a0.Target⟩:zK))
  (some (⟨a0.Name,a0.Kind,a0.zF,(⟨0,(⟨#[]⟩:ByteArray)⟩:Value),(⟨#[]⟩:ByteArray),0,0⟩:zK))))) ((cond (a0.Kind==0) (some (a0.Kind==0))
  (some (a0.Kind==4))).bind fun q4=>cond q4 (some (⟨a0.Name,a0.Kind,(⟨0,0,0⟩:DataType),a0.Value,(⟨#[]⟩:ByteArray),0,0⟩:zK)) ((cond (a0.Kind==1)
  (some (a0.Kind==1)) (some (a0.Kind==2))).bind fun q5=>
  cond q5 (some (⟨a0.Name,a0.Kind,(⟨0,0,0⟩:DataType),(⟨0,(⟨#[]⟩:ByteArray)⟩:Value),a0.Base,a0.Offset,0⟩:zK)) (cond (a0.Kind==5)
  (some (⟨a0.Name,a0.Kind,(⟨0,0,0⟩:DataType),(⟨0,(⟨#[]⟩:ByteArray)⟩:Value),(⟨#[]⟩:ByteArray),0,a0.Target⟩:zK))
  (some (⟨a0.Name,a0.Kind,(⟨0,0,0⟩:DataType),(⟨0,(⟨#[]⟩:ByteArray)⟩:Value),(⟨#[]⟩:ByteArray),0,0⟩:zK)))))
def zo9.k:Kq:=⟨257,(cvv [Ty.zK] [Ty.zK] zo9),go [zhb.k] {bj:=[16,22]} [] Proofs.Tryz.func257⟩
def zct.b0 (N:Nat) (s3:Int) (s5:Int) (s6:Int):Option (Stp (Int × Int × Int)):=
 cond (decide (s6<s5)) (some (.again ((w6 (s3*10)),s5,(w6 (s6+1))))) (some (.leave (s3,s5,s6)))
def zct.r0 (N:Nat) (x:Int × Int × Int):=zct.b0 N x.1 x.2.1 x.2.2
def zct (N:Nat) (a0:Int):Option Int:=
 (zh (zct.r0 N) N (1,(if 18<a0 then 18 else a0),0)).bind fun y1=>some y1.1
def zct.k (N:Nat):Kq:=⟨269,(cvv [T6] [T6] (zct N)),go [] {} [(0,.plain {slots:=[(3,.val T6),(5,.val T6),(6,.val T6)],boxes:=[]} [T6,T6,T6] (zh (zct.r0 N) N))] Proofs.Tryz.func269 (hL:=⟨⟨_,_,rfl,by kernel_rfl⟩,trivial⟩)⟩
def zef (N:Nat) (a0:DataType) (a1:Value):Option Int:=
 (zcu N a0).bind fun r1=>(zb9 (a0.Kind==4) 17).bind fun r2=>(za5 N ([r1,r2]:List Int)).bind fun r3=>cond (r3 !=0) (some r3)
  (cond (a0.Kind==0) ((zb9 (a1.N !=0) 5).bind fun r4=>(zb9 ((a1.S.size:Int) !=a0.Length) 18).bind fun r5=>
  (za5 N ([r4,r5]:List Int)).bind fun r6=>some r6) ((zct N a0.Length).bind fun r7=>
  (zb9 (!(a1.S.toList==(⟨#[]⟩:ByteArray).toList)) 5).bind fun r8=>(zfk a1.N (w6 (0-(w6 (r7-1))))
  (w6 (r7-1))).bind fun r9=>(zb9 (!r9) 19).bind fun r10=>(za5 N ([r8,r10]:List Int)).bind fun r11=>some r11))
def zef.k (N:Nat):Kq:=⟨188,(cvv [T6] [Ty.DataType,Ty.Value] (zef N)),go [zcu.k N,zfk.k,za5.k N,zb9.k,zct.k N] {lits:=[8,12,13,24,31,32,41,49,50]} [] Proofs.Tryz.func188⟩
def zjz (N:Nat) (a0:zK):Option Int:=
 (zfc N a0.zF).bind fun r1=>some r1.1
def zjz.k (N:Nat):Kq:=⟨184,(cvv [T6] [Ty.zK] (zjz N)),go [zfc.k N] {} [] Proofs.Tryz.func184⟩
def zkm (N:Nat) (a0:zK) (a1:List zK):Option Int:=
 (zhs N a1 a0.Base).bind fun r1=>cond (decide (r1<0)) (some 11) ((idx a1 r1).bind fun x2=>cond (a0.Kind==2) ((zcg (x2.Kind !=3) 17).bind fun r3=>
  (ze4 a0.Offset 0 256).bind fun r4=>(zcg (!r4) 3).bind fun r5=>(zdu N ([r3,r5]:List Int)).bind fun r6=>some r6) (cond (x2.Kind !=0) (some 17)
  ((zjz N x2).bind fun r7=>(zjz N a0).bind fun r8=>(ze4 a0.Offset 0 (w6 (r7-r8))).bind fun r9=>(zcg (!r9) 3).bind fun r10=>
  some r10)))
def zkm.k (N:Nat):Kq:=⟨259,(cvv [T6] [Ty.zK,(Ty.sl Ty.zK)] (zkm N)),go [zdu.k N,zcg.k,zjz.k N,zhs.k N,ze4.k] {lits:=[23,28,29]} [] Proofs.Tryz.func259⟩
def zkk (N:Nat) (a0:zO) (a1:Int):Option Int:=
 (idx a0.zV a1).bind fun x1=>if 0≤a1∧a1≤(a0.zV.length:Int)then(if 0≤(0:Int)∧(0:Int)≤a1 then((zga N x1.Name).bind fun r2=>
  (zcg (!r2) 7).bind fun r3=>(zhs N ((a0.zV.take a1.toNat).drop (0:Int).toNat) x1.Name).bind fun r4=>
  (zcg (decide (r4≥0)) 13).bind fun r5=>(ze4 x1.Kind 0 5).bind fun r6=>(zcg (!r6) 4).bind fun r7=>(zo9 x1).bind fun r8=>
  (zcg (!(zex [(r8.Name==x1.Name),(r8.Kind==x1.Kind),(r8.zF.Kind==x1.zF.Kind),(r8.zF.Length==x1.zF.Length),(r8.zF.Scale==x1.zF.Scale),(r8.Value.N==x1.Value.N),(r8.Value.S==x1.Value.S),(r8.Base==x1.Base),(r8.Offset==x1.Offset),(r8.Target==x1.Target)])) 5).bind fun r9=>
  (zdu N ([r3,r5,r7,r9]:List Int)).bind fun r10=>cond (r10 !=0) (some r10) ((zhb x1).bind fun r11=>
  cond r11 ((zcu N x1.zF).bind fun r12=>(zcg (x1.zF.Kind==4) 17).bind fun r13=>(zdu N ([r12,r13]:List Int)).bind fun r14=>
  cond (r14 !=0) (some r14) ((cond (x1.Kind==0) (some (x1.Kind==0)) (some (x1.Kind==4))).bind fun q15=>cond q15 ((zef N x1.zF x1.Value).bind fun r16=>
  some r16) ((cond (x1.Kind==1) (some (x1.Kind==1)) (some (x1.Kind==2))).bind fun q17=>
  cond q17 ((zkm N x1 ((a0.zV.take a1.toNat).drop (0:Int).toNat)).bind fun r18=>some r18) (cond (x1.Kind==5)
  ((ze4 x1.Target 0 (w6 ((a0.zA.length:Int)-1))).bind fun r19=>(zcg (!r19) 3).bind fun r20=>some r20) (some 0)))))
  ((cond (x1.Kind==0) (some (x1.Kind==0)) (some (x1.Kind==4))).bind fun q21=>cond q21 ((zef N x1.zF x1.Value).bind fun r22=>some r22)
  ((cond (x1.Kind==1) (some (x1.Kind==1)) (some (x1.Kind==2))).bind fun q23=>
  cond q23 ((zkm N x1 ((a0.zV.take a1.toNat).drop (0:Int).toNat)).bind fun r24=>some r24) (cond (x1.Kind==5)
  ((ze4 x1.Target 0 (w6 ((a0.zA.length:Int)-1))).bind fun r25=>(zcg (!r25) 3).bind fun r26=>some r26)
  (some 0))))))else none)else none
def zkk.k (N:Nat):Kq:=⟨180,(cvv [T6] [Ty.zO,T6] (zkk N)),go [zcu.k N,zdu.k N,zcg.k,zhs.k N,zef.k N,zga.k N,ze4.k,zo9.k,zhb.k,zkm.k N] {lits:=[22,28,33,38,39,48,53,54],bj:=[61,69]} [] Proofs.Tryz.func180⟩
def zmt (a0:Int) (a1:Int):Option (Int × Int):=
 some ((IntKind.wrap .u64 ((IntKind.wrap .u64 ((IntKind.wrap .u64 ((a0.fdiv (2^(min (32:Int).toNat 64)))*(a1.fdiv (2^(min (32:Int).toNat 64)))))+((IntKind.wrap .u64 ((IntKind.wrap .u64 ((a0.fdiv (2^(min (32:Int).toNat 64)))*(zj .u64 a1 4294967295)))+((IntKind.wrap .u64 ((zj .u64 a0 4294967295)*(zj .u64 a1 4294967295))).fdiv (2^(min (32:Int).toNat 64))))).fdiv (2^(min (32:Int).toNat 64)))))+((IntKind.wrap .u64 ((zj .u64 (IntKind.wrap .u64 ((IntKind.wrap .u64 ((a0.fdiv (2^(min (32:Int).toNat 64)))*(zj .u64 a1 4294967295)))+((IntKind.wrap .u64 ((zj .u64 a0 4294967295)*(zj .u64 a1 4294967295))).fdiv (2^(min (32:Int).toNat 64))))) 4294967295)+(IntKind.wrap .u64 ((zj .u64 a0 4294967295)*(a1.fdiv (2^(min (32:Int).toNat 64))))))).fdiv (2^(min (32:Int).toNat 64))))),(IntKind.wrap .u64 (a0*a1)))
def zmt.k:Kq:=⟨313,(cvv [(Ty.int .u64),(Ty.int .u64)] [(Ty.int .u64),(Ty.int .u64)] zmt),go [] {} [] Proofs.Tryz.func313⟩
def zoa (a0:Int) (a1:Int):Option (Int × Int):=
 (zmt a0 a1).bind fun r1=>some (r1.1,r1.2)
def zoa.k:Kq:=⟨261,(cvv [(Ty.int .u64),(Ty.int .u64)] [(Ty.int .u64),(Ty.int .u64)] zoa),go [zmt.k] {} [] Proofs.Tryz.func261⟩
def zep.b0 (N:Nat) (s7:List Int) (s8:Int):Option (Stp ((List Int) × Int)):=
 cond (decide (s8<(s7.length:Int)))
  (if 0≤s8∧s8≤(s7.length:Int)then(if 0≤s8∧s8≤(s7.length:Int)then(if 0≤(0:Int)∧(0:Int)≤s8 then(some (.again ((s7.take s8.toNat++((s7.drop ((0:Int).toNat)).take (s8.toNat-(0:Int).toNat)).take (min ((s7.drop ((0:Int).toNat)).take (s8.toNat-(0:Int).toNat)).length (s7.length-s8.toNat))++s7.drop (s8.toNat+(min ((s7.drop ((0:Int).toNat)).take (s8.toNat-(0:Int).toNat)).length (s7.length-s8.toNat)))),(w6 (s8+(((min ((s7.drop ((0:Int).toNat)).take (s8.toNat-(0:Int).toNat)).length (s7.length-s8.toNat)):Nat):Int))))))else none)else none)else none)
  (some (.leave (s7,s8)))
def zep.r0 (N:Nat) (x:(List Int) × Int):=zep.b0 N x.1 x.2
def zep (N:Nat) (a0:List Int) (a1:Int):Option ((List Int)):=
 cond (decide (a1<0)) (none) ((zoa (IntKind.wrap .u64 (a0.length:Int)) (IntKind.wrap .u64 a1)).bind fun r1=>(cond (decide (r1.1>0)) (some true)
  (some (decide (r1.2>9223372036854775807)))).bind fun g2=>cond g2 (none)
  (if 0≤(w6 r1.2)then(if(w6 r1.2)≤(w6 r1.2)then(cond (Nat.ble ((w6 r1.2).toNat*8) zr)
  ((zh (zep.r0 N) N ((a0.take (min a0.length (List.replicate (w6 r1.2).toNat (0:Int)).length)++(List.replicate (w6 r1.2).toNat (0:Int)).drop (min a0.length (List.replicate (w6 r1.2).toNat (0:Int)).length)),(((min a0.length (List.replicate (w6 r1.2).toNat (0:Int)).length):Nat):Int))).bind fun y3=>
  some y3.1) none)else none)else none))
def zep.k (N:Nat):Kq:=⟨183,(ctv [.val (Ty.sl T6),.val T6] [(Ty.sl T6)] [] [0] [(Ty.sl T6),T6] (zep N)),go [zoa.k] {} [(0,.plain {slots:=[(7,.own 5000007 T6),(8,.val T6)],boxes:=[]} [(Ty.sl T6),T6] (zh (zep.r0 N) N))] Proofs.Tryz.func183 (hL:=⟨⟨_,_,rfl,by kernel_rfl⟩,trivial⟩)⟩
def za6.b0 (N:Nat) (s0:List zK) (s4:List Int) (s5:Int) (s16:List zK) (s17:Int) (s18:Int):Option (Stp ((List zK) × (List Int) × Int × (List zK) × Int × Int)):=
 cond (decide (s18<s17)) ((idx s16 s18).bind fun x1001=>cond (x1001.Kind==3) (if 0≤s18 then(if s18<(s4.length:Int)then((s4[s18.toNat]?).bind fun x1002=>
  some (.again (s0,(s4.set s18.toNat s5),(w6 (s5+16)),s16,s17,(w6 (s18+1)))))else none)else none)
  (some (.again (s0,s4,s5,s16,s17,(w6 (s18+1)))))) (some (.leave (s0,s4,s5,s16,s17,s18)))
def za6.r0 (N:Nat) (x:(List zK) × (List Int) × Int × (List zK) × Int × Int):=za6.b0 N x.1 x.2.1 x.2.2.1 x.2.2.2.1 x.2.2.2.2.1 x.2.2.2.2.2
def za6.b2 (N:Nat) (s0:List zK) (s4:List Int) (s5:Int) (s33:List zK) (s34:Int) (s35:Int):Option (Stp ((List zK) × (List Int) × Int × (List zK) × Int × Int)):=
 cond (decide (s35<s34)) ((idx s33 s35).bind fun x3001=>cond (x3001.Kind==0) ((zjz N x3001).bind fun r3002=>
  if 0≤s35 then(if s35<(s4.length:Int)then((s4[s35.toNat]?).bind fun x3003=>
  some (.again (s0,(s4.set s35.toNat s5),(w6 (s5+r3002)),s33,s34,(w6 (s35+1)))))else none)else none)
  (some (.again (s0,s4,s5,s33,s34,(w6 (s35+1)))))) (some (.leave (s0,s4,s5,s33,s34,s35)))
def za6.r2 (N:Nat) (x:(List zK) × (List Int) × Int × (List zK) × Int × Int):=za6.b2 N x.1 x.2.1 x.2.2.1 x.2.2.2.1 x.2.2.2.2.1 x.2.2.2.2.2
def za6.b4 (N:Nat) (s0:List zK) (s4:List Int) (s5:Int) (s52:List zK) (s53:Int) (s54:Int):Option (Stp ((List zK) × (List Int) × Int × (List zK) × Int × Int)):=
 cond (decide (s54<s53)) ((idx s52 s54).bind fun x5001=>cond (x5001.Kind==1) ((zhs N s0 x5001.Base).bind fun r5002=>
  if 0≤r5002 then(if r5002<(s4.length:Int)then((s4[r5002.toNat]?).bind fun x5003=>if 0≤s54 then(if s54<(s4.length:Int)then((s4[s54.toNat]?).bind fun x5004=>
  some (.again (s0,(s4.set s54.toNat (w6 (x5003+x5001.Offset))),s5,s52,s53,(w6 (s54+1)))))else none)else none)else none)else none)
  (some (.again (s0,s4,s5,s52,s53,(w6 (s54+1)))))) (some (.leave (s0,s4,s5,s52,s53,s54)))
def za6.r4 (N:Nat) (x:(List zK) × (List Int) × Int × (List zK) × Int × Int):=za6.b4 N x.1 x.2.1 x.2.2.1 x.2.2.2.1 x.2.2.2.2.1 x.2.2.2.2.2
def za6 (N:Nat) (a0:List zK):Option ((List Int) × Int):=
 (zep N ([(-1)]:List Int) (a0.length:Int)).bind fun r1=>(zh (za6.r0 N) N (a0,r1,0,a0,(a0.length:Int),0)).bind fun y2=>
  (zh (za6.r2 N) N (y2.1,y2.2.1,y2.2.2.1,y2.1,(y2.1.length:Int),0)).bind fun y3=>
  (zh (za6.r4 N) N (y3.1,y3.2.1,y3.2.2.1,y3.1,(y3.1.length:Int),0)).bind fun y4=>
  some (y4.2.1,(w6 ((w6 ((w6 (y4.2.2.1+16))-1)).tdiv 16)))
def za6.k (N:Nat):Kq:=⟨109,(cvv [(Ty.sl T6),T6] [(Ty.sl Ty.zK)] (za6 N)),go [zep.k N,zjz.k N,zhs.k N] {lits:=[12,14]} [(0,.plain {slots:=[(0,.val (Ty.sl Ty.zK)),(4,.own 5000004 T6),(5,.val T6),(16,.val (Ty.sl Ty.zK)),(17,.val T6),(18,.val T6)],boxes:=[]} [(Ty.sl Ty.zK),(Ty.sl T6),T6,(Ty.sl Ty.zK),T6,T6] (zh (za6.r0 N) N)),(2,.plain {slots:=[(0,.val (Ty.sl Ty.zK)),(4,.own 5000004 T6),(5,.val T6),(33,.val (Ty.sl Ty.zK)),(34,.val T6),(35,.val T6)],boxes:=[]} [(Ty.sl Ty.zK),(Ty.sl T6),T6,(Ty.sl Ty.zK),T6,T6] (zh (za6.r2 N) N)),(4,.plain {slots:=[(0,.val (Ty.sl Ty.zK)),(4,.own 5000004 T6),(5,.val T6),(52,.val (Ty.sl Ty.zK)),(53,.val T6),(54,.val T6)],boxes:=[]} [(Ty.sl Ty.zK),(Ty.sl T6),T6,(Ty.sl Ty.zK),T6,T6] (zh (za6.r4 N) N))] Proofs.Tryz.func109 (hL:=⟨⟨_,_,rfl,by kernel_rfl⟩,⟨_,_,rfl,by kernel_rfl⟩,⟨_,_,rfl,by kernel_rfl⟩,trivial⟩)⟩
def zhm (a0:zK):Option Bool:=
 some (a0.zF.Kind !=0)
def zhm.k:Kq:=⟨311,(cvv [Ty.bool] [Ty.zK] zhm),go [] {} [] Proofs.Tryz.func311⟩
def zpa (a0:zK) (a1:zK) (a2:Int):Option Bool:=
 cond (a2==5) (some (a0.Kind==3)) (cond (a2==6) (some (a0.Kind==5)) ((cond (a2==0) (some true) (some (a2==2))).bind fun g1=>(cond (a2==2) (some true)
  (some (a2==3))).bind fun g2=>(zhb a0).bind fun r3=>(cond r3 ((cond g1 (some (a0.Kind==4)) (some false)).bind fun g4=>some (!g4)) (some false)).bind fun g5=>
  (cond g5 ((cond g2 ((zhm a0).bind fun r6=>some (!r6)) (some false)).bind fun g7=>some (!g7)) (some false)).bind fun g8=>(cond g8 ((cond (a2==4)
  ((zhm a0).bind fun r9=>(zhm a1).bind fun r10=>some (!(r9==r10))) (some false)).bind fun g11=>some (!g11)) (some false)).bind fun g12=>
  some g12))
def zpa.k:Kq:=⟨260,(cvv [Ty.bool] [Ty.zK,Ty.zK,T6] zpa),go [zhb.k,zhm.k] {} [] Proofs.Tryz.func260⟩
def zcv.b0 (N:Nat) (s22:List Int) (s23:Int) (s24:Int) (b2:zO) (b3:zR) (b5:zK):Option (Round Int ((List Int) × Int × Int × zO × zR × zK)):=
 cond (decide (s24<s23)) ((idx s22 s24).bind fun x1001=>(ze4 x1001 0 (w6 ((b2.zV.length:Int)-1))).bind fun r1002=>cond (!r1002)
  (some (.result 3)) ((idx b2.zV x1001).bind fun x1003=>(idx z9f b3.Op).bind fun x1004=>(idx x1004 s24).bind fun x1005=>(zpa x1003 b5 x1005).bind fun r1006=>
  cond (!r1006) (some (.result 17)) ((idx b2.zV x1001).bind fun x1007=>some (.again (s22,s23,(w6 (s24+1)),b2,b3,x1007)))))
  (some (.leave (s22,s23,s24,b2,b3,b5)))
def zcv.r0 (N:Nat) (x:(List Int) × Int × Int × zO × zR × zK):=zcv.b0 N x.1 x.2.1 x.2.2.1 x.2.2.2.1 x.2.2.2.2.1 x.2.2.2.2.2
def zcv (N:Nat) (a0:zO) (a1:zR):Option Int:=
 (ze4 a1.Op 0 18).bind fun r1=>cond (!r1) (some 4) ((idx z9f a1.Op).bind fun x2=>cond ((a1.Args.length:Int) !=(x2.length:Int)) (some 37)
  ((zo (zcv.r0 N) N (a1.Args,(a1.Args.length:Int),0,a0,a1,(⟨(⟨#[]⟩:ByteArray),0,(⟨0,0,0⟩:DataType),(⟨0,(⟨#[]⟩:ByteArray)⟩:Value),(⟨#[]⟩:ByteArray),0,0⟩:zK))).bind fun z4=>
  zbu z4 (fun z=>some z) (fun y3=>some 0)))
def zcv.k (N:Nat):Kq:=⟨181,(cvv [T6] [Ty.zO,Ty.zR] (zcv N)),go [ze4.k,zpa.k] {} [(0,.rets {slots:=[(2,.ptr 2 0),(3,.ptr 3 0),(5,.ptr 5 0),(22,.val (Ty.sl T6)),(23,.val T6),(24,.val T6)],boxes:=[(2,Ty.zO,[]),(3,Ty.zR,[]),(5,Ty.zK,[])]} [(Ty.sl T6),T6,T6,Ty.zO,Ty.zR,Ty.zK] (zo (zcv.r0 N) N))] Proofs.Tryz.func181 (hL:=⟨⟨_,_,rfl,by kernel_rfl⟩,trivial⟩)⟩
def zkl (a0:zO) (a1:zX):Option Int:=
 (cond (decide (a1.From≥0)) (some (decide (a1.From<a1.To))) (some false)).bind fun g1=>(cond g1 (some (decide (a1.To≤(a0.zA.length:Int))))
  (some false)).bind fun g2=>(cond g2 ((ze4 a1.Exception 0 999).bind fun r3=>some r3) (some false)).bind fun g4=>
  (cond g4 ((ze4 a1.Handler 0 (w6 ((a0.zA.length:Int)-1))).bind fun r5=>some r5) (some false)).bind fun g6=>
  (zcg (!g6) 3).bind fun r7=>some r7
def zkl.k:Kq:=⟨182,(cvv [T6] [Ty.zO,Ty.zX] zkl),go [zcg.k,ze4.k] {} [] Proofs.Tryz.func182⟩
def zak.b0 (N:Nat) (s47:Int) (s48:Int) (b1:zO) (b2:zY):Option (Round (zY × Int) (Int × Int × zO × zY)):=
 cond (decide (s48<s47)) ((zkk N b1 s48).bind fun r1001=>cond (r1001 !=0) (some (.result ((⟨1,s48⟩:zY),r1001)))
  (some (.again (s47,(w6 (s48+1)),b1,b2)))) (some (.leave (s47,s48,b1,b2)))
def zak.r0 (N:Nat) (x:Int × Int × zO × zY):=zak.b0 N x.1 x.2.1 x.2.2.1 x.2.2.2
def zak.b2 (N:Nat) (s70:List zR) (s71:Int) (s72:Int) (b1:zO) (b2:zY):Option (Round (zY × Int) ((List zR) × Int × Int × zO × zY)):=
 cond (decide (s72<s71)) ((idx s70 s72).bind fun x3001=>(zcv N b1 x3001).bind fun r3002=>cond (r3002 !=0) (some (.result ((⟨2,s72⟩:zY),r3002)))
  (some (.again (s70,s71,(w6 (s72+1)),b1,b2)))) (some (.leave (s70,s71,s72,b1,b2)))
end
end Go.Proofs.YtbmfjmakahmclaaGreatDoor.M
