/- What the program's functions compute, each tied to its code: part 0. -/
import Derived.Test.YtbmfjmakahmclaaGreatDoorOrd
namespace Go.Proofs.YtbmfjmakahmclaaGreatDoor.M
open Go Go.Amx
set_option linter.unusedVariables false
set_option maxRecDepth 100000
noncomputable section
def zix.b0 (N:Nat) (s0:Int) (s1:Int) (s5:List Int) (s6:Int):Option (Stp (Int × Int × (List Int) × Int)):=
 cond (decide (s6<s1)) (cond (Nat.ble ((s5.length+([s0]:List Int).length)*1) zae) (some (.again (s0,s1,(s5++([s0]:List Int)),(w6 (s6+1))))) none)
  (some (.leave (s0,s1,s5,s6)))
def zix.r0 (N:Nat) (x:Int × Int × (List Int) × Int):=zix.b0 N x.1 x.2.1 x.2.2.1 x.2.2.2
def zix (N:Nat) (a0:Int) (a1:Int):Option ByteArray:=
 (zi (zix.r0 N) N (a0,a1,[],0)).bind fun y1=>some (zhq y1.2.2.1)
def zix.k (N:Nat):Kq:=⟨61,(cvv [Ty.str] [(Ty.int .u8),T6] (zix N)),go [] {lits:=[14]} [(0,.plain {slots:=[(0,.val (Ty.int .u8)),(1,.val T6),(5,.own 5000005 (Ty.int .u8)),(6,.val T6)],boxes:=[]} [(Ty.int .u8),T6,(Ty.sl (Ty.int .u8)),T6] (zi (zix.r0 N) N))] Proofs.Tryz.func61 (hL:=⟨⟨_,_,rfl,by kernel_rfl⟩,trivial⟩)⟩
def zqr (N:Nat):Option zH:=
 (zix N 241 16).bind fun r1=>
  some (⟨(⟨r1,([false]:List Bool)⟩:Storage),([(⟨0,0,0,0,0,(⟨false,0,0⟩:zN),(⟨false,0,0⟩:zN),(⟨2,1,0⟩:DataType),(⟨0,0,0⟩:DataType),false,false,(⟨0,0⟩:Number),(⟨#[]⟩:ByteArray),(⟨#[]⟩:ByteArray),0,0,0,0⟩:zA),(⟨0,1,0,0,0,(⟨false,0,0⟩:zN),(⟨false,0,0⟩:zN),(⟨2,1,0⟩:DataType),(⟨0,0,0⟩:DataType),false,false,(⟨0,0⟩:Number),(⟨#[]⟩:ByteArray),(⟨#[]⟩:ByteArray),0,0,0,0⟩:zA),(⟨22,1,0,0,0,(⟨false,0,0⟩:zN),(⟨false,0,0⟩:zN),(⟨0,0,0⟩:DataType),(⟨0,0,0⟩:DataType),false,false,(⟨0,0⟩:Number),(⟨#[]⟩:ByteArray),(⟨#[]⟩:ByteArray),0,0,0,0⟩:zA)]:List zA),[]⟩:zH)
def zqr.k (N:Nat):Kq:=⟨25,(cvv [Ty.zH] [] (zqr N)),go [zix.k N] {} [] Proofs.Tryz.func25⟩
def za9 (a0:Int) (a1:Int) (a2:Int):Option Bool:=
 (cond (decide (a1≤a0)) (some (decide (a0≤a2))) (some false)).bind fun g1=>some g1
def za9.k:Kq:=⟨107,(cvv [Ty.bool] [T6,T6,T6] za9),go [] {} [] Proofs.Tryz.func107⟩
def zct (a0:Bool) (a1:Int):Option Int:=
 cond a0 (some a1) (some 0)
def zct.k:Kq:=⟨106,(cvv [T6] [Ty.bool,T6] zct),go [] {} [] Proofs.Tryz.func106⟩
def zey (a0:zK):Option Int:=
 (za9 a0.Registers 2 8).bind fun r1=>(zct (!r1) 3).bind fun r2=>some r2
def zey.k:Kq:=⟨63,(cvv [T6] [Ty.zK] zey),go [zct.k,za9.k] {} [] Proofs.Tryz.func63⟩
def zbc.b0 (N:Nat) (s0:ByteArray) (s3:Int) (s6:Int) (s7:Int):Option (Stp (ByteArray × Int × Int × Int)):=
 cond (decide (s7<s6)) ((znh s0 s7).bind fun x1001=>some (.again (s0,(orI .i64 (w6 (s3*2^(min (8:Int).toNat 64)))
  (w6 (x1001.toNat:Int))),s6,(w6 (s7+1))))) (some (.leave (s0,s3,s6,s7)))
def zbc.r0 (N:Nat) (x:ByteArray × Int × Int × Int):=zbc.b0 N x.1 x.2.1 x.2.2.1 x.2.2.2
def zbc (N:Nat) (a0:ByteArray):Option Int:=
 (zi (zbc.r0 N) N (a0,0,(a0.size:Int),0)).bind fun y1=>some y1.2.1
def zbc.k (N:Nat):Kq:=⟨275,(cvv [T6] [Ty.str] (zbc N)),go [] {} [(0,.plain {slots:=[(0,.val Ty.str),(3,.val T6),(6,.val T6),(7,.val T6)],boxes:=[]} [Ty.str,T6,T6,T6] (zi (zbc.r0 N) N))] Proofs.Tryz.func275 (hL:=⟨⟨_,_,rfl,by kernel_rfl⟩,trivial⟩)⟩
def zfk (a0:Int) (a1:Int) (a2:Int):Option Bool:=
 (cond (decide (a1≤a0)) (some (decide (a0≤a2))) (some false)).bind fun g1=>some g1
def zfk.k:Kq:=⟨186,(cvv [Ty.bool] [T6,T6,T6] zfk),go [] {} [] Proofs.Tryz.func186⟩
def zdu (a0:Pointer):Option Int:=
 (zfk a0.Kind 0 2).bind fun r1=>cond (!r1) (some 4) (((zfk a0.Address.yF 0 1099511627775).bind fun r2=>cond (!r2) (some (!r2))
  ((zfk a0.Address.Offset 0 16777215).bind fun r3=>cond (!r3) (some (!r3)) ((zfk a0.Authority 0 1023).bind fun r4=>some (!r4)))).bind fun q5=>
  cond q5 (some 3) ((cond (a0.Authority !=0) (some (a0.Kind !=1)) (some false)).bind fun g6=>cond g6 (some 5) (some 0)))
def zdu.k:Kq:=⟨276,(cvv [T6] [Ty.Pointer] zdu),go [zfk.k] {bj:=[8]} [] Proofs.Tryz.func276⟩
def zea (N:Nat) (a0:ByteArray):Option (Pointer × Int):=
 cond ((a0.size:Int) !=16) (some ((⟨0,(⟨0,0⟩:Address),0⟩:Pointer),18)) ((znh a0 1).bind fun x1=>cond ((x1.toNat:Int) !=0)
  (some ((⟨0,(⟨0,0⟩:Address),0⟩:Pointer),5)) ((znh a0 0).bind fun x2=>
  if 0≤(4:Int)∧(4:Int)≤(a0.size:Int)then(if 0≤(2:Int)∧(2:Int)≤(4:Int)then((zbc N (a0.extract (2:Int).toNat (4:Int).toNat)).bind fun r3=>
  if 0≤(10:Int)∧(10:Int)≤(a0.size:Int)then(if 0≤(4:Int)∧(4:Int)≤(10:Int)then((zbc N (a0.extract (4:Int).toNat (10:Int).toNat)).bind fun r4=>
  if 0≤(10:Int)∧(10:Int)≤(a0.size:Int)then((zbc N (a0.extract (10:Int).toNat a0.size)).bind fun r5=>
  (zdu (⟨(w6 (x2.toNat:Int)),(⟨r4,r5⟩:Address),r3⟩:Pointer)).bind fun r6=>cond (r6 !=0)
  (some ((⟨0,(⟨0,0⟩:Address),0⟩:Pointer),r6))
  (some ((⟨(w6 (x2.toNat:Int)),(⟨r4,r5⟩:Address),r3⟩:Pointer),0)))else none)else none)else none)else none)else none))
def zea.k (N:Nat):Kq:=⟨200,(cvv [Ty.Pointer,T6] [Ty.str] (zea N)),go [zbc.k N,zdu.k] {} [] Proofs.Tryz.func200⟩
def zq.b1 (N:Nat) (s27:List Bool) (s28:Int) (s29:Int) (b1:Storage):Option (Round (Int × Int) ((List Bool) × Int × Int × Storage)):=
 cond (decide (s29<s28)) ((idx s27 s29).bind fun x2001=>cond (!x2001) (some (.again (s27,s28,(w6 (s29+1)),b1)))
  (if 0≤(w6 ((w6 (s29*16))+16))∧(w6 ((w6 (s29*16))+16))≤(b1.Bytes.size:Int)then(if 0≤(w6 (s29*16))∧(w6 (s29*16))≤(w6 ((w6 (s29*16))+16))then((zea N (b1.Bytes.extract (w6 (s29*16)).toNat (w6 ((w6 (s29*16))+16)).toNat)).bind fun r2002=>
  cond (r2002.2 !=0) (some (.result (s29,22))) (some (.again (s27,s28,(w6 (s29+1)),b1))))else none)else none)) (some (.leave (s27,s28,s29,b1)))
def zq.r1 (N:Nat) (x:(List Bool) × Int × Int × Storage):=zq.b1 N x.1 x.2.1 x.2.2.1 x.2.2.2
def zq (N:Nat) (a0:Storage):Option (Int × Int):=
 cond (decide ((a0.Bytes.size:Int)>1024)) (some (0,2)) (cond (((a0.Bytes.size:Int).tmod 16) !=0) (some (0,18))
  (cond ((a0.Tags.length:Int) !=(w6 ((a0.Bytes.size:Int).tdiv 16))) (some (0,6))
  ((zp (zq.r1 N) N (a0.Tags,(a0.Tags.length:Int),0,a0)).bind fun z2=>zbq z2 (fun z=>some z) (fun y1=>some ((y1.2.2.2.Tags.length:Int),0)))))
def zq.k (N:Nat):Kq:=⟨129,(cvv [T6,T6] [Ty.Storage] (zq N)),go [zea.k N] {} [(1,.rets {slots:=[(1,.ptr 1 0),(27,.val (Ty.sl Ty.bool)),(28,.val T6),(29,.val T6)],boxes:=[(1,Ty.Storage,[])]} [(Ty.sl Ty.bool),T6,T6,Ty.Storage] (zp (zq.r1 N) N))] Proofs.Tryz.func129 (hL:=⟨⟨_,_,rfl,by kernel_rfl⟩,trivial⟩)⟩
def zao.b0 (N:Nat) (s0:List Bool) (s1:Bool) (s7:Int) (s8:Int):Option (Round Int ((List Bool) × Bool × Int × Int)):=
 cond (decide (s8<s7)) ((idx s0 s8).bind fun x1001=>cond (s1==x1001) (some (.result s8)) (some (.again (s0,s1,s7,(w6 (s8+1))))))
  (some (.leave (s0,s1,s7,s8)))
def zao.r0 (N:Nat) (x:(List Bool) × Bool × Int × Int):=zao.b0 N x.1 x.2.1 x.2.2.1 x.2.2.2
def zao (N:Nat) (a0:List Bool) (a1:Bool):Option Int:=
 (zp (zao.r0 N) N (a0,a1,(a0.length:Int),0)).bind fun z2=>zbq z2 (fun z=>some z) (fun y1=>some (-1))
def zao.k (N:Nat):Kq:=⟨98,(cvv [T6] [(Ty.sl Ty.bool),Ty.bool] (zao N)),go [] {} [(0,.rets {slots:=[(0,.val (Ty.sl Ty.bool)),(1,.val Ty.bool),(7,.val T6),(8,.val T6)],boxes:=[]} [(Ty.sl Ty.bool),Ty.bool,T6,T6] (zp (zao.r0 N) N))] Proofs.Tryz.func98 (hL:=⟨⟨_,_,rfl,by kernel_rfl⟩,trivial⟩)⟩
def zgi (N:Nat) (a0:List Bool) (a1:Bool):Option Bool:=
 (zao N a0 a1).bind fun r1=>some (decide (r1≥0))
def zgi.k (N:Nat):Kq:=⟨131,(cvv [Ty.bool] [(Ty.sl Ty.bool),Ty.bool] (zgi N)),go [zao.k N] {} [] Proofs.Tryz.func131⟩
def za4.b0 (N:Nat) (s5:List Int) (s6:Int) (s7:Int):Option (Round Int ((List Int) × Int × Int)):=
 cond (decide (s7<s6)) ((idx s5 s7).bind fun x1001=>cond (x1001 !=0) (some (.result x1001)) (some (.again (s5,s6,(w6 (s7+1)))))) (some (.leave (s5,s6,s7)))
def za4.r0 (N:Nat) (x:(List Int) × Int × Int):=za4.b0 N x.1 x.2.1 x.2.2
def za4 (N:Nat) (a0:List Int):Option Int:=
 (zp (za4.r0 N) N (a0,(a0.length:Int),0)).bind fun z2=>zbq z2 (fun z=>some z) (fun y1=>some 0)
def za4.k (N:Nat):Kq:=⟨130,(cvv [T6] [(Ty.sl T6)] (za4 N)),go [] {} [(0,.rets {slots:=[(5,.val (Ty.sl T6)),(6,.val T6),(7,.val T6)],boxes:=[]} [(Ty.sl T6),T6,T6] (zp (za4.r0 N) N))] Proofs.Tryz.func130 (hL:=⟨⟨_,_,rfl,by kernel_rfl⟩,trivial⟩)⟩
def zck (a0:zA):Option zU:=
 (idx zaa7 a0.Op).bind fun x1=>(cond (a0.Op==4) (some a0.zO) (some false)).bind fun g2=>
  cond g2 (some (⟨(orI .i64 (orI .i64 (z90 .i64 x1.fields 4) 8) 64),x1.types⟩:zU)) (some x1)
def zck.k:Kq:=⟨204,(cvv [Ty.zU] [Ty.zA] zck),go [] {} [] Proofs.Tryz.func204⟩
def zdg (a0:Int) (a1:Int) (a2:Int):Option Int:=
 cond ((zg .i64 a2 a0)==0) (some 0) (some a1)
def zdg.k:Kq:=⟨277,(ctv [.val T6,.ptr T6 true [],.ptr T6 false []] [] [T6] [] [T6,T6,T6] zdg),go [] {ro:=[1000001],pk:=[1000000,1000001]} [] Proofs.Tryz.func277⟩
def zim (a0:zN) (a1:Bool):Option zN:=
 cond (!a1) (some (⟨false,0,0⟩:zN)) (cond (!a0.Based) (some (⟨a0.Based,0,a0.Offset⟩:zN)) (some a0))
def zim.k:Kq:=⟨278,(cvv [Ty.zN] [Ty.zN,Ty.bool] zim),go [] {} [] Proofs.Tryz.func278⟩
def zkw (a0:zA):Option zA:=
 (zck a0).bind fun r1=>(zdg 1 a0.R r1.fields).bind fun r2=>(zdg 2 a0.A r1.fields).bind fun r3=>
  (zdg 4 a0.B r1.fields).bind fun r4=>(zdg 2048 a0.Mask r1.fields).bind fun r5=>(zdg 4096 a0.Target r1.fields).bind fun r6=>
  (zdg 8192 a0.Pointer r1.fields).bind fun r7=>(zdg 16384 a0.Source r1.fields).bind fun r8=>
  (zdg 32768 a0.zM r1.fields).bind fun r9=>(zim a0.Place ((zg .i64 r1.fields 8) !=0)).bind fun r10=>
  (zim a0.From ((zg .i64 r1.fields 16) !=0)).bind fun r11=>cond ((zg .i64 r1.fields 32)==0) (cond ((zg .i64 r1.fields 64)==0)
  (cond ((zg .i64 r1.fields 256)==0) (cond ((zg .i64 r1.fields 512)==0) (cond ((zg .i64 r1.fields 1024)==0) ((cond a0.Half (some ((zg .i64 r1.fields 128) !=0))
  (some false)).bind fun g12=>(cond a0.zO (some (a0.Op==4)) (some false)).bind fun g13=>
  some (⟨a0.Op,r2,r3,r4,r9,r10,r11,(⟨0,0,0⟩:DataType),(⟨0,0,0⟩:DataType),g12,g13,(⟨0,0⟩:Number),(⟨#[]⟩:ByteArray),(⟨#[]⟩:ByteArray),r5,r6,r7,r8⟩:zA))
  ((cond a0.Half (some ((zg .i64 r1.fields 128) !=0)) (some false)).bind fun g14=>(cond a0.zO (some (a0.Op==4)) (some false)).bind fun g15=>
  some (⟨a0.Op,r2,r3,r4,r9,r10,r11,(⟨0,0,0⟩:DataType),(⟨0,0,0⟩:DataType),g14,g15,(⟨0,0⟩:Number),(⟨#[]⟩:ByteArray),a0.Other,r5,r6,r7,r8⟩:zA)))
  (cond ((zg .i64 r1.fields 1024)==0) ((cond a0.Half (some ((zg .i64 r1.fields 128) !=0)) (some false)).bind fun g16=>(cond a0.zO (some (a0.Op==4))
  (some false)).bind fun g17=>
  some (⟨a0.Op,r2,r3,r4,r9,r10,r11,(⟨0,0,0⟩:DataType),(⟨0,0,0⟩:DataType),g16,g17,(⟨0,0⟩:Number),a0.Text,(⟨#[]⟩:ByteArray),r5,r6,r7,r8⟩:zA))
  ((cond a0.Half (some ((zg .i64 r1.fields 128) !=0)) (some false)).bind fun g18=>(cond a0.zO (some (a0.Op==4)) (some false)).bind fun g19=>
  some (⟨a0.Op,r2,r3,r4,r9,r10,r11,(⟨0,0,0⟩:DataType),(⟨0,0,0⟩:DataType),g18,g19,(⟨0,0⟩:Number),a0.Text,a0.Other,r5,r6,r7,r8⟩:zA))))
  (cond ((zg .i64 r1.fields 512)==0) (cond ((zg .i64 r1.fields 1024)==0) ((cond a0.Half (some ((zg .i64 r1.fields 128) !=0)) (some false)).bind fun g20=>
  (cond a0.zO (some (a0.Op==4)) (some false)).bind fun g21=>
  some (⟨a0.Op,r2,r3,r4,r9,r10,r11,(⟨0,0,0⟩:DataType),(⟨0,0,0⟩:DataType),g20,g21,a0.Number,(⟨#[]⟩:ByteArray),(⟨#[]⟩:ByteArray),r5,r6,r7,r8⟩:zA))
  ((cond a0.Half (some ((zg .i64 r1.fields 128) !=0)) (some false)).bind fun g22=>(cond a0.zO (some (a0.Op==4)) (some false)).bind fun g23=>
  some (⟨a0.Op,r2,r3,r4,r9,r10,r11,(⟨0,0,0⟩:DataType),(⟨0,0,0⟩:DataType),g22,g23,a0.Number,(⟨#[]⟩:ByteArray),a0.Other,r5,r6,r7,r8⟩:zA)))
  (cond ((zg .i64 r1.fields 1024)==0) ((cond a0.Half (some ((zg .i64 r1.fields 128) !=0)) (some false)).bind fun g24=>(cond a0.zO (some (a0.Op==4))
  (some false)).bind fun g25=>
  some (⟨a0.Op,r2,r3,r4,r9,r10,r11,(⟨0,0,0⟩:DataType),(⟨0,0,0⟩:DataType),g24,g25,a0.Number,a0.Text,(⟨#[]⟩:ByteArray),r5,r6,r7,r8⟩:zA))
  ((cond a0.Half (some ((zg .i64 r1.fields 128) !=0)) (some false)).bind fun g26=>(cond a0.zO (some (a0.Op==4)) (some false)).bind fun g27=>
  some (⟨a0.Op,r2,r3,r4,r9,r10,r11,(⟨0,0,0⟩:DataType),(⟨0,0,0⟩:DataType),g26,g27,a0.Number,a0.Text,a0.Other,r5,r6,r7,r8⟩:zA)))))
  (cond ((zg .i64 r1.fields 256)==0) (cond ((zg .i64 r1.fields 512)==0) (cond ((zg .i64 r1.fields 1024)==0) ((cond a0.Half (some ((zg .i64 r1.fields 128) !=0))
  (some false)).bind fun g28=>(cond a0.zO (some (a0.Op==4)) (some false)).bind fun g29=>
  some (⟨a0.Op,r2,r3,r4,r9,r10,r11,(⟨0,0,0⟩:DataType),a0.Second,g28,g29,(⟨0,0⟩:Number),(⟨#[]⟩:ByteArray),(⟨#[]⟩:ByteArray),r5,r6,r7,r8⟩:zA))
  ((cond a0.Half (some ((zg .i64 r1.fields 128) !=0)) (some false)).bind fun g30=>(cond a0.zO (some (a0.Op==4)) (some false)).bind fun g31=>
  some (⟨a0.Op,r2,r3,r4,r9,r10,r11,(⟨0,0,0⟩:DataType),a0.Second,g30,g31,(⟨0,0⟩:Number),(⟨#[]⟩:ByteArray),a0.Other,r5,r6,r7,r8⟩:zA)))
  (cond ((zg .i64 r1.fields 1024)==0) ((cond a0.Half (some ((zg .i64 r1.fields 128) !=0)) (some false)).bind fun g32=>(cond a0.zO (some (a0.Op==4))
  (some false)).bind fun g33=>
  some (⟨a0.Op,r2,r3,r4,r9,r10,r11,(⟨0,0,0⟩:DataType),a0.Second,g32,g33,(⟨0,0⟩:Number),a0.Text,(⟨#[]⟩:ByteArray),r5,r6,r7,r8⟩:zA))
  ((cond a0.Half (some ((zg .i64 r1.fields 128) !=0)) (some false)).bind fun g34=>(cond a0.zO (some (a0.Op==4)) (some false)).bind fun g35=>
  some (⟨a0.Op,r2,r3,r4,r9,r10,r11,(⟨0,0,0⟩:DataType),a0.Second,g34,g35,(⟨0,0⟩:Number),a0.Text,a0.Other,r5,r6,r7,r8⟩:zA))))
  (cond ((zg .i64 r1.fields 512)==0) (cond ((zg .i64 r1.fields 1024)==0) ((cond a0.Half (some ((zg .i64 r1.fields 128) !=0)) (some false)).bind fun g36=>
  (cond a0.zO (some (a0.Op==4)) (some false)).bind fun g37=>
  some (⟨a0.Op,r2,r3,r4,r9,r10,r11,(⟨0,0,0⟩:DataType),a0.Second,g36,g37,a0.Number,(⟨#[]⟩:ByteArray),(⟨#[]⟩:ByteArray),r5,r6,r7,r8⟩:zA))
  ((cond a0.Half (some ((zg .i64 r1.fields 128) !=0)) (some false)).bind fun g38=>(cond a0.zO (some (a0.Op==4)) (some false)).bind fun g39=>
  some (⟨a0.Op,r2,r3,r4,r9,r10,r11,(⟨0,0,0⟩:DataType),a0.Second,g38,g39,a0.Number,(⟨#[]⟩:ByteArray),a0.Other,r5,r6,r7,r8⟩:zA)))
  (cond ((zg .i64 r1.fields 1024)==0) ((cond a0.Half (some ((zg .i64 r1.fields 128) !=0)) (some false)).bind fun g40=>(cond a0.zO (some (a0.Op==4))
  (some false)).bind fun g41=>
  some (⟨a0.Op,r2,r3,r4,r9,r10,r11,(⟨0,0,0⟩:DataType),a0.Second,g40,g41,a0.Number,a0.Text,(⟨#[]⟩:ByteArray),r5,r6,r7,r8⟩:zA))
  ((cond a0.Half (some ((zg .i64 r1.fields 128) !=0)) (some false)).bind fun g42=>(cond a0.zO (some (a0.Op==4)) (some false)).bind fun g43=>
  some (⟨a0.Op,r2,r3,r4,r9,r10,r11,(⟨0,0,0⟩:DataType),a0.Second,g42,g43,a0.Number,a0.Text,a0.Other,r5,r6,r7,r8⟩:zA))))))
  (cond ((zg .i64 r1.fields 64)==0) (cond ((zg .i64 r1.fields 256)==0) (cond ((zg .i64 r1.fields 512)==0) (cond ((zg .i64 r1.fields 1024)==0)
  ((cond a0.Half (some ((zg .i64 r1.fields 128) !=0)) (some false)).bind fun g44=>(cond a0.zO (some (a0.Op==4)) (some false)).bind fun g45=>
  some (⟨a0.Op,r2,r3,r4,r9,r10,r11,a0.zF,(⟨0,0,0⟩:DataType),g44,g45,(⟨0,0⟩:Number),(⟨#[]⟩:ByteArray),(⟨#[]⟩:ByteArray),r5,r6,r7,r8⟩:zA))
  ((cond a0.Half (some ((zg .i64 r1.fields 128) !=0)) (some false)).bind fun g46=>(cond a0.zO (some (a0.Op==4)) (some false)).bind fun g47=>
  some (⟨a0.Op,r2,r3,r4,r9,r10,r11,a0.zF,(⟨0,0,0⟩:DataType),g46,g47,(⟨0,0⟩:Number),(⟨#[]⟩:ByteArray),a0.Other,r5,r6,r7,r8⟩:zA)))
  (cond ((zg .i64 r1.fields 1024)==0) ((cond a0.Half (some ((zg .i64 r1.fields 128) !=0)) (some false)).bind fun g48=>(cond a0.zO (some (a0.Op==4))
  (some false)).bind fun g49=>
  some (⟨a0.Op,r2,r3,r4,r9,r10,r11,a0.zF,(⟨0,0,0⟩:DataType),g48,g49,(⟨0,0⟩:Number),a0.Text,(⟨#[]⟩:ByteArray),r5,r6,r7,r8⟩:zA))
  ((cond a0.Half (some ((zg .i64 r1.fields 128) !=0)) (some false)).bind fun g50=>(cond a0.zO (some (a0.Op==4)) (some false)).bind fun g51=>
  some (⟨a0.Op,r2,r3,r4,r9,r10,r11,a0.zF,(⟨0,0,0⟩:DataType),g50,g51,(⟨0,0⟩:Number),a0.Text,a0.Other,r5,r6,r7,r8⟩:zA))))
  (cond ((zg .i64 r1.fields 512)==0) (cond ((zg .i64 r1.fields 1024)==0) ((cond a0.Half (some ((zg .i64 r1.fields 128) !=0)) (some false)).bind fun g52=>
  (cond a0.zO (some (a0.Op==4)) (some false)).bind fun g53=>
  some (⟨a0.Op,r2,r3,r4,r9,r10,r11,a0.zF,(⟨0,0,0⟩:DataType),g52,g53,a0.Number,(⟨#[]⟩:ByteArray),(⟨#[]⟩:ByteArray),r5,r6,r7,r8⟩:zA))
  ((cond a0.Half (some ((zg .i64 r1.fields 128) !=0)) (some false)).bind fun g54=>(cond a0.zO (some (a0.Op==4)) (some false)).bind fun g55=>
  some (⟨a0.Op,r2,r3,r4,r9,r10,r11,a0.zF,(⟨0,0,0⟩:DataType),g54,g55,a0.Number,(⟨#[]⟩:ByteArray),a0.Other,r5,r6,r7,r8⟩:zA)))
  (cond ((zg .i64 r1.fields 1024)==0) ((cond a0.Half (some ((zg .i64 r1.fields 128) !=0)) (some false)).bind fun g56=>(cond a0.zO (some (a0.Op==4))
  (some false)).bind fun g57=>
  some (⟨a0.Op,r2,r3,r4,r9,r10,r11,a0.zF,(⟨0,0,0⟩:DataType),g56,g57,a0.Number,a0.Text,(⟨#[]⟩:ByteArray),r5,r6,r7,r8⟩:zA))
  ((cond a0.Half (some ((zg .i64 r1.fields 128) !=0)) (some false)).bind fun g58=>(cond a0.zO (some (a0.Op==4)) (some false)).bind fun g59=>
  some (⟨a0.Op,r2,r3,r4,r9,r10,r11,a0.zF,(⟨0,0,0⟩:DataType),g58,g59,a0.Number,a0.Text,a0.Other,r5,r6,r7,r8⟩:zA)))))
  (cond ((zg .i64 r1.fields 256)==0) (cond ((zg .i64 r1.fields 512)==0) (cond ((zg .i64 r1.fields 1024)==0) ((cond a0.Half (some ((zg .i64 r1.fields 128) !=0))
  (some false)).bind fun g60=>(cond a0.zO (some (a0.Op==4)) (some false)).bind fun g61=>
  some (⟨a0.Op,r2,r3,r4,r9,r10,r11,a0.zF,a0.Second,g60,g61,(⟨0,0⟩:Number),(⟨#[]⟩:ByteArray),(⟨#[]⟩:ByteArray),r5,r6,r7,r8⟩:zA))
  ((cond a0.Half (some ((zg .i64 r1.fields 128) !=0)) (some false)).bind fun g62=>(cond a0.zO (some (a0.Op==4)) (some false)).bind fun g63=>
  some (⟨a0.Op,r2,r3,r4,r9,r10,r11,a0.zF,a0.Second,g62,g63,(⟨0,0⟩:Number),(⟨#[]⟩:ByteArray),a0.Other,r5,r6,r7,r8⟩:zA)))
  (cond ((zg .i64 r1.fields 1024)==0) ((cond a0.Half (some ((zg .i64 r1.fields 128) !=0)) (some false)).bind fun g64=>(cond a0.zO (some (a0.Op==4))
  (some false)).bind fun g65=>
  some (⟨a0.Op,r2,r3,r4,r9,r10,r11,a0.zF,a0.Second,g64,g65,(⟨0,0⟩:Number),a0.Text,(⟨#[]⟩:ByteArray),r5,r6,r7,r8⟩:zA))
  ((cond a0.Half (some ((zg .i64 r1.fields 128) !=0)) (some false)).bind fun g66=>(cond a0.zO (some (a0.Op==4)) (some false)).bind fun g67=>
  some (⟨a0.Op,r2,r3,r4,r9,r10,r11,a0.zF,a0.Second,g66,g67,(⟨0,0⟩:Number),a0.Text,a0.Other,r5,r6,r7,r8⟩:zA))))
  (cond ((zg .i64 r1.fields 512)==0) (cond ((zg .i64 r1.fields 1024)==0) ((cond a0.Half (some ((zg .i64 r1.fields 128) !=0)) (some false)).bind fun g68=>
  (cond a0.zO (some (a0.Op==4)) (some false)).bind fun g69=>
  some (⟨a0.Op,r2,r3,r4,r9,r10,r11,a0.zF,a0.Second,g68,g69,a0.Number,(⟨#[]⟩:ByteArray),(⟨#[]⟩:ByteArray),r5,r6,r7,r8⟩:zA))
  ((cond a0.Half (some ((zg .i64 r1.fields 128) !=0)) (some false)).bind fun g70=>(cond a0.zO (some (a0.Op==4)) (some false)).bind fun g71=>
  some (⟨a0.Op,r2,r3,r4,r9,r10,r11,a0.zF,a0.Second,g70,g71,a0.Number,(⟨#[]⟩:ByteArray),a0.Other,r5,r6,r7,r8⟩:zA)))
  (cond ((zg .i64 r1.fields 1024)==0) ((cond a0.Half (some ((zg .i64 r1.fields 128) !=0)) (some false)).bind fun g72=>(cond a0.zO (some (a0.Op==4))
  (some false)).bind fun g73=>some (⟨a0.Op,r2,r3,r4,r9,r10,r11,a0.zF,a0.Second,g72,g73,a0.Number,a0.Text,(⟨#[]⟩:ByteArray),r5,r6,r7,r8⟩:zA))
  ((cond a0.Half (some ((zg .i64 r1.fields 128) !=0)) (some false)).bind fun g74=>(cond a0.zO (some (a0.Op==4)) (some false)).bind fun g75=>
  some (⟨a0.Op,r2,r3,r4,r9,r10,r11,a0.zF,a0.Second,g74,g75,a0.Number,a0.Text,a0.Other,r5,r6,r7,r8⟩:zA))))))
def zkw.k:Kq:=⟨201,(cvv [Ty.zA] [Ty.zA] zkw),go [zck.k,zdg.k,zim.k] {} [] Proofs.Tryz.func201⟩
def zi8 (a0:zK) (a1:zA):Option Bool:=
 (cond (a1.Op !=7) (some true) (some a0.yK)).bind fun g1=>(cond g1 ((cond (a1.Op !=4) (some true) (some (!a1.zO))).bind fun g2=>(cond g2 (some true)
  (some a0.yI)).bind fun g3=>some g3) (some false)).bind fun g4=>some g4
def zi8.k:Kq:=⟨202,(cvv [Ty.bool] [Ty.zK,Ty.zA] zi8),go [] {} [] Proofs.Tryz.func202⟩
def ze2 (a0:Int) (a1:Int) (a2:Int):Option Bool:=
 (cond (decide (a1≤a0)) (some (decide (a0≤a2))) (some false)).bind fun g1=>some g1
def ze2.k:Kq:=⟨228,(cvv [Ty.bool] [T6,T6,T6] ze2),go [] {} [] Proofs.Tryz.func228⟩
def za5 (a0:Bool) (a1:Int):Option Int:=
 cond a0 (some a1) (some 0)
def za5.k:Kq:=⟨230,(cvv [T6] [Ty.bool,T6] za5),go [] {} [] Proofs.Tryz.func230⟩
def zab.b0 (N:Nat) (s5:List Int) (s6:Int) (s7:Int):Option (Round Int ((List Int) × Int × Int)):=
 cond (decide (s7<s6)) ((idx s5 s7).bind fun x1001=>cond (x1001 !=0) (some (.result x1001)) (some (.again (s5,s6,(w6 (s7+1)))))) (some (.leave (s5,s6,s7)))
def zab.r0 (N:Nat) (x:(List Int) × Int × Int):=zab.b0 N x.1 x.2.1 x.2.2
def zab (N:Nat) (a0:List Int):Option Int:=
 (zp (zab.r0 N) N (a0,(a0.length:Int),0)).bind fun z2=>zbq z2 (fun z=>some z) (fun y1=>some 0)
def zab.k (N:Nat):Kq:=⟨229,(cvv [T6] [(Ty.sl T6)] (zab N)),go [] {} [(0,.rets {slots:=[(5,.val (Ty.sl T6)),(6,.val T6),(7,.val T6)],boxes:=[]} [(Ty.sl T6),T6,T6] (zp (zab.r0 N) N))] Proofs.Tryz.func229 (hL:=⟨⟨_,_,rfl,by kernel_rfl⟩,trivial⟩)⟩
def zax (N:Nat) (a0:DataType):Option Int:=
 cond (a0.Kind==0) ((ze2 a0.Length 1 256).bind fun r1=>(za5 (!r1) 18).bind fun r2=>(za5 (!(a0.Scale==0)) 3).bind fun r3=>
  (zab N ([r2,r3]:List Int)).bind fun r4=>some r4) ((cond (a0.Kind==1) (some (a0.Kind==1)) (some (a0.Kind==2))).bind fun q5=>
  cond q5 ((ze2 a0.Length 1 15).bind fun r6=>(ze2 a0.Scale 0 a0.Length).bind fun r7=>(za5 (!r6) 18).bind fun r8=>(za5 (!r7) 3).bind fun r9=>
  (zab N ([r8,r9]:List Int)).bind fun r10=>some r10) (cond (a0.Kind==3) ((cond (a0.Length==4) (some true) (some (a0.Length==9))).bind fun g11=>
  (ze2 a0.Scale 0 a0.Length).bind fun r12=>(za5 (!g11) 18).bind fun r13=>(za5 (!r12) 3).bind fun r14=>
  (zab N ([r13,r14]:List Int)).bind fun r15=>some r15) (cond (a0.Kind==4) ((za5 (!(a0.Length==0)) 18).bind fun r16=>
  (za5 (!(a0.Scale==0)) 3).bind fun r17=>(zab N ([r16,r17]:List Int)).bind fun r18=>some r18) (some 4))))
def zax.k (N:Nat):Kq:=⟨159,(cvv [T6] [Ty.DataType] (zax N)),go [ze2.k,zab.k N,za5.k] {lits:=[48,51,52],bj:=[15]} [] Proofs.Tryz.func159⟩
def zgd (N:Nat) (a0:DataType) (a1:Int):Option Int:=
 (cond (a0.Kind==4) (some true) ((cond (a1==1) (some (a0.Kind==0)) (some false)).bind fun g1=>some g1)).bind fun g2=>(cond g2 (some true) ((cond (a1==2)
  (some (a0.Kind !=0)) (some false)).bind fun g3=>some g3)).bind fun g4=>(zax N a0).bind fun r5=>(zct g4 17).bind fun r6=>
  (za4 N ([r5,r6]:List Int)).bind fun r7=>some r7
def zgd.k (N:Nat):Kq:=⟨279,(cvv [T6] [Ty.DataType,T6] (zgd N)),go [zct.k,za4.k N,zax.k N] {lits:=[28,30,31]} [] Proofs.Tryz.func279⟩
def zh7 (N:Nat) (a0:zA) (a1:zU):Option Int:=
 cond ((zg .i64 a1.fields 32) !=0) ((zgd N a0.zF a1.types).bind fun r1=>cond (r1 !=0) (some r1) (cond ((zg .i64 a1.fields 64) !=0)
  ((zgd N a0.Second a1.types).bind fun r2=>some r2) (some 0))) (cond ((zg .i64 a1.fields 64) !=0) ((zgd N a0.Second a1.types).bind fun r3=>some r3)
  (some 0))
def zh7.k (N:Nat):Kq:=⟨203,(cvv [T6] [Ty.zA,Ty.zU] (zh7 N)),go [zgd.k N] {} [] Proofs.Tryz.func203⟩
def zah.b0 (N:Nat) (s3:List Int) (s4:Int) (s16:List Int) (s17:Int) (s18:Int):Option (Stp ((List Int) × Int × (List Int) × Int × Int)):=
 cond (decide (s18<s17)) (if 0≤s18 then(if s18<(s16.length:Int)then((s16[s18.toNat]?).bind fun x1001=>
  if s18<0 then none else cond ((zg .i64 s4 (w6 (1*2^(min s18.toNat 64)))) !=0) (cond (Nat.ble ((s3.length+([x1001]:List Int).length)*8) zae)
  (some (.again ((s3++([x1001]:List Int)),s4,s16,s17,(w6 (s18+1))))) none)
  (some (.again (s3,s4,s16,s17,(w6 (s18+1))))))else none)else none) (some (.leave (s3,s4,s16,s17,s18)))
def zah.r0 (N:Nat) (x:(List Int) × Int × (List Int) × Int × Int):=zah.b0 N x.1 x.2.1 x.2.2.1 x.2.2.2.1 x.2.2.2.2
def zah (N:Nat) (a0:zA):Option ((List Int)):=
 (zck a0).bind fun r1=>
  (zi (zah.r0 N) N ([],r1.fields,([a0.R,a0.A,a0.B]:List Int),(([a0.R,a0.A,a0.B]:List Int).length:Int),0)).bind fun y2=>some y2.1
def zah.k (N:Nat):Kq:=⟨281,(cvv [(Ty.sl T6)] [Ty.zA] (zah N)),go [zck.k] {lits:=[30]} [(0,.plain {slots:=[(3,.own 5000003 T6),(4,.val T6),(16,.own 5000016 T6),(17,.val T6),(18,.val T6)],boxes:=[]} [(Ty.sl T6),T6,(Ty.sl T6),T6,T6] (zi (zah.r0 N) N))] Proofs.Tryz.func281 (hL:=⟨⟨_,_,rfl,by kernel_rfl⟩,trivial⟩)⟩
def zg4 (a0:Int) (a1:zK):Option Bool:=
 (za9 a0 0 (w6 (a1.Registers-1))).bind fun r1=>some (!r1)
def zg4.k:Kq:=⟨282,(ctv [.val T6,.ptr Ty.zK false []] [Ty.bool] [] [] [T6,Ty.zK] zg4),go [za9.k] {ro:=[1000000],pk:=[1000000]} [] Proofs.Tryz.func282⟩
def zat.b0 (N:Nat) (s0:List Int) (s7:Int) (s8:Int) (b1000000:zK):Option (Round Int ((List Int) × Int × Int × zK)):=
 cond (decide (s8<s7)) ((idx s0 s8).bind fun x1001=>(zg4 x1001 b1000000).bind fun r1002=>cond r1002 (some (.result s8))
  (some (.again (s0,s7,(w6 (s8+1)),b1000000)))) (some (.leave (s0,s7,s8,b1000000)))
def zat.r0 (N:Nat) (x:(List Int) × Int × Int × zK):=zat.b0 N x.1 x.2.1 x.2.2.1 x.2.2.2
def zat (N:Nat) (a0:List Int) (a1:zK):Option Int:=
 (zp (zat.r0 N) N (a0,(a0.length:Int),0,a1)).bind fun z2=>zbq z2 (fun z=>some z) (fun y1=>some (-1))
def zat.k (N:Nat):Kq:=⟨317,(ctv [.val (Ty.sl T6),.clo 282 1,.ptr Ty.zK false []] [T6] [] [] [(Ty.sl T6),Ty.zK] (zat N)),go [zg4.k] {ro:=[1000000],pk:=[1000000]} [(0,.rets {slots:=[(0,.val (Ty.sl T6)),(1,.fn 282 [1000000]),(7,.val T6),(8,.val T6)],boxes:=[(1000000,Ty.zK,[])]} [(Ty.sl T6),T6,T6,Ty.zK] (zp (zat.r0 N) N))] Proofs.Tryz.func317 (hL:=⟨⟨_,_,rfl,by kernel_rfl⟩,trivial⟩)⟩
def zd2 (N:Nat) (a0:List Int) (a1:zK):Option Bool:=
 (zat N a0 a1).bind fun r1=>some (decide (r1≥0))
def zd2.k (N:Nat):Kq:=⟨280,(ctv [.val (Ty.sl T6),.clo 282 1,.ptr Ty.zK false []] [Ty.bool] [] [] [(Ty.sl T6),Ty.zK] (zd2 N)),go [zat.k N] {ro:=[1000000],pk:=[1000000]} [] Proofs.Tryz.func280⟩
def zer (a0:Storage) (a1:Int):Option Bool:=
 (cond (decide (a1≥0)) (some ((a1.tmod 16)==0)) (some false)).bind fun g1=>(cond g1 (some (decide (a1<(a0.Bytes.size:Int)))) (some false)).bind fun g2=>some g2
def zer.k:Kq:=⟨283,(cvv [Ty.bool] [Ty.Storage,T6] zer),go [] {} [] Proofs.Tryz.func283⟩
def zg9 (a0:DataType):Option Int:=
 cond (a0.Kind==1) (some (w6 ((w6 (a0.Length.tdiv 2))+1))) (cond (a0.Kind==3)
  (some (w6 (2+(w6 ((w6 (a0.Length.tdiv 9))*2))))) (cond (a0.Kind==4) (some 16) (some a0.Length)))
def zg9.k:Kq:=⟨272,(cvv [T6] [Ty.DataType] zg9),go [] {} [] Proofs.Tryz.func272⟩
def zfr (N:Nat) (a0:DataType):Option (Int × Int):=
 (zax N a0).bind fun r1=>cond (r1 !=0) (some (0,r1)) ((zg9 a0).bind fun r2=>some (r2,0))
def zfr.k (N:Nat):Kq:=⟨231,(cvv [T6,T6] [Ty.DataType] (zfr N)),go [zax.k N,zg9.k] {} [] Proofs.Tryz.func231⟩
def zfm (N:Nat) (a0:DataType):Option Int:=
 (zfr N a0).bind fun r1=>some r1.1
def zfm.k (N:Nat):Kq:=⟨244,(cvv [T6] [Ty.DataType] (zfm N)),go [zfr.k N] {} [] Proofs.Tryz.func244⟩
def zef (N:Nat) (a0:Storage) (a1:zN) (a2:DataType):Option Bool:=
 cond a1.Based ((zer a0 a1.Pointer).bind fun r1=>(cond r1 ((za9 a1.Offset 0 256).bind fun r2=>some r2) (some false)).bind fun g3=>some g3)
  ((zfm N a2).bind fun r4=>(za9 a1.Offset 0 (w6 ((a0.Bytes.size:Int)-r4))).bind fun r5=>some r5)
def zef.k (N:Nat):Kq:=⟨284,(cvv [Ty.bool] [Ty.Storage,Ty.zN,Ty.DataType] (zef N)),go [za9.k,zfm.k N,zer.k] {} [] Proofs.Tryz.func284⟩
def zin (N:Nat) (a0:zK) (a1:zH) (a2:zA):Option Bool:=
 (zck a2).bind fun r1=>(zah N a2).bind fun r2=>(zd2 N r2 a0).bind fun r3=>cond r3 (some false)
  ((cond ((zg .i64 r1.fields 8) !=0) (some (a2.Op==4)) (some false)).bind fun g4=>cond g4 ((cond ((zg .i64 r1.fields 4096) !=0)
  ((za9 a2.Target 0 (w6 ((a1.zB.length:Int)-1))).bind fun r5=>some (!r5)) (some false)).bind fun g6=>(cond g6 (some true)
  ((cond ((zg .i64 r1.fields 2048) !=0) ((za9 a2.Mask 1 7).bind fun r7=>some (!r7)) (some false)).bind fun g8=>some g8)).bind fun g9=>(cond g9 (some true)
  ((cond ((zg .i64 r1.fields 8192) !=0) ((zer a1.Storage a2.Pointer).bind fun r10=>some (!r10)) (some false)).bind fun g11=>some g11)).bind fun g12=>
  (cond g12 (some true) ((cond ((zg .i64 r1.fields 16384) !=0) ((zer a1.Storage a2.Source).bind fun r13=>some (!r13)) (some false)).bind fun g14=>
  some g14)).bind fun g15=>(cond g15 (some true) ((cond ((zg .i64 r1.fields 8) !=0) ((zef N a1.Storage a2.Place a2.Second).bind fun r16=>some (!r16))
  (some false)).bind fun g17=>some g17)).bind fun g18=>(cond g18 (some true) ((cond ((zg .i64 r1.fields 16) !=0)
  ((zef N a1.Storage a2.From a2.Second).bind fun r19=>some (!r19)) (some false)).bind fun g20=>some g20)).bind fun g21=>(cond g21 (some true)
  ((cond ((zg .i64 r1.fields 32768) !=0) ((za9 a2.zM 0 4).bind fun r22=>some (!r22)) (some false)).bind fun g23=>some g23)).bind fun g24=>some (!g24))
  ((cond ((zg .i64 r1.fields 4096) !=0) ((za9 a2.Target 0 (w6 ((a1.zB.length:Int)-1))).bind fun r25=>some (!r25))
  (some false)).bind fun g26=>(cond g26 (some true) ((cond ((zg .i64 r1.fields 2048) !=0) ((za9 a2.Mask 1 7).bind fun r27=>some (!r27)) (some false)).bind fun g28=>
  some g28)).bind fun g29=>(cond g29 (some true) ((cond ((zg .i64 r1.fields 8192) !=0) ((zer a1.Storage a2.Pointer).bind fun r30=>some (!r30))
  (some false)).bind fun g31=>some g31)).bind fun g32=>(cond g32 (some true) ((cond ((zg .i64 r1.fields 16384) !=0) ((zer a1.Storage a2.Source).bind fun r33=>
  some (!r33)) (some false)).bind fun g34=>some g34)).bind fun g35=>(cond g35 (some true) ((cond ((zg .i64 r1.fields 8) !=0)
  ((zef N a1.Storage a2.Place a2.zF).bind fun r36=>some (!r36)) (some false)).bind fun g37=>some g37)).bind fun g38=>(cond g38 (some true)
  ((cond ((zg .i64 r1.fields 16) !=0) ((zef N a1.Storage a2.From a2.Second).bind fun r39=>some (!r39)) (some false)).bind fun g40=>some g40)).bind fun g41=>
  (cond g41 (some true) ((cond ((zg .i64 r1.fields 32768) !=0) ((za9 a2.zM 0 4).bind fun r42=>some (!r42)) (some false)).bind fun g43=>
  some g43)).bind fun g44=>some (!g44)))
def zin.k (N:Nat):Kq:=⟨205,(cvv [Ty.bool] [Ty.zK,Ty.zH,Ty.zA] (zin N)),go [za9.k,zck.k,zd2.k N,zah.k N,zer.k,zef.k N] {lits:=[13]} [] Proofs.Tryz.func205⟩
def zbl (a0:Number):Option Int:=
 (ze2 a0.N (-999999999999999) 999999999999999).bind fun r1=>(cond (!r1) (some true) ((ze2 a0.Scale 0 15).bind fun r2=>some (!r2))).bind fun g3=>
  (za5 g3 3).bind fun r4=>some r4
def zbl.k:Kq:=⟨206,(cvv [T6] [Ty.Number] zbl),go [ze2.k,za5.k] {} [] Proofs.Tryz.func206⟩
def zdy (N:Nat) (a0:zK) (a1:zH) (a2:zA):Option Int:=
 (za9 a2.Op 0 26).bind fun r1=>cond (!r1) (some 4) ((zkw a2).bind fun r2=>
  (zct (!(zdq [(r2.Op==a2.Op),(r2.R==a2.R),(r2.A==a2.A),(r2.B==a2.B),(r2.zM==a2.zM),(r2.Place.Based==a2.Place.Based),(r2.Place.Pointer==a2.Place.Pointer),(r2.Place.Offset==a2.Place.Offset),(r2.From.Based==a2.From.Based),(r2.From.Pointer==a2.From.Pointer),(r2.From.Offset==a2.From.Offset),(r2.zF.Kind==a2.zF.Kind),(r2.zF.Length==a2.zF.Length),(r2.zF.Scale==a2.zF.Scale),(r2.Second.Kind==a2.Second.Kind),(r2.Second.Length==a2.Second.Length),(r2.Second.Scale==a2.Second.Scale),(r2.Half==a2.Half),(r2.zO==a2.zO),(r2.Number.N==a2.Number.N),(r2.Number.Scale==a2.Number.Scale),(r2.Text==a2.Text),(r2.Other==a2.Other),(r2.Mask==a2.Mask),(r2.Target==a2.Target),(r2.Pointer==a2.Pointer),(r2.Source==a2.Source)])) 5).bind fun r3=>
  (zi8 a0 a2).bind fun r4=>(zct (!r4) 39).bind fun r5=>(zck a2).bind fun r6=>(zh7 N a2 r6).bind fun r7=>
  (za4 N ([r3,r5,r7]:List Int)).bind fun r8=>cond (r8 !=0) (some r8) ((zin N a0 a1 a2).bind fun r9=>(zct (!r9) 3).bind fun r10=>
  (zbl a2.Number).bind fun r11=>(cond (decide ((a2.Text.size:Int)>256)) (some true) (some (decide ((a2.Other.size:Int)>256)))).bind fun g12=>
  (zct g12 2).bind fun r13=>(za4 N ([r10,r11,r13]:List Int)).bind fun r14=>some r14))
def zdy.k (N:Nat):Kq:=⟨132,(cvv [T6] [Ty.zK,Ty.zH,Ty.zA] (zdy N)),go [zct.k,za9.k,za4.k N,zkw.k,zi8.k,zh7.k N,zck.k,zin.k N,zbl.k] {lits:=[16,21,24,25,26,36,39,50,51]} [] Proofs.Tryz.func132⟩
def zil (a0:zH) (a1:zT):Option Int:=
 (za9 a1.From 0 a1.To).bind fun r1=>(cond r1 (some (decide (a1.To≤(a0.zB.length:Int)))) (some false)).bind fun g2=>
  (cond g2 ((za9 a1.Exception 0 999).bind fun r3=>some r3) (some false)).bind fun g4=>
  (cond g4 ((za9 a1.Handler 0 (w6 ((a0.zB.length:Int)-1))).bind fun r5=>some r5) (some false)).bind fun g6=>
  (zct (!g6) 3).bind fun r7=>some r7
def zil.k:Kq:=⟨133,(cvv [T6] [Ty.zH,Ty.zT] zil),go [zct.k,za9.k] {} [] Proofs.Tryz.func133⟩
def zj.b0 (N:Nat) (s57:List zA) (s58:Int) (s59:Int) (b2:zK) (b3:zH):Option (Round (Int × Int) ((List zA) × Int × Int × zK × zH)):=
 cond (decide (s59<s58)) ((idx s57 s59).bind fun x1001=>(zdy N b2 b3 x1001).bind fun r1002=>cond (r1002 !=0) (some (.result (s59,r1002)))
  (some (.again (s57,s58,(w6 (s59+1)),b2,b3)))) (some (.leave (s57,s58,s59,b2,b3)))
def zj.r0 (N:Nat) (x:(List zA) × Int × Int × zK × zH):=zj.b0 N x.1 x.2.1 x.2.2.1 x.2.2.2.1 x.2.2.2.2
def zj.b2 (N:Nat) (s74:List zT) (s75:Int) (s76:Int) (b3:zH):Option (Round (Int × Int) ((List zT) × Int × Int × zH)):=
 cond (decide (s76<s75)) ((idx s74 s76).bind fun x3001=>(zil b3 x3001).bind fun r3002=>cond (r3002 !=0) (some (.result (s76,r3002)))
  (some (.again (s74,s75,(w6 (s76+1)),b3)))) (some (.leave (s74,s75,s76,b3)))
def zj.r2 (N:Nat) (x:(List zT) × Int × Int × zH):=zj.b2 N x.1 x.2.1 x.2.2.1 x.2.2.2
def zj (N:Nat) (a0:zK) (a1:zH):Option (Int × Int):=
 (zey a0).bind fun r1=>cond (r1 !=0) (some (0,r1)) ((zq N a1.Storage).bind fun r2=>cond (r2.2 !=0) (some (0,r2.2))
  ((zgi N a1.Storage.Tags true).bind fun r3=>(zct r3 22).bind fun r4=>(zct ((a1.zB.length:Int)==0) 1).bind fun r5=>
  (cond (decide ((a1.zB.length:Int)>240)) (some true) (some (decide ((a1.zQ.length:Int)>40)))).bind fun g6=>(zct g6 2).bind fun r7=>
  (za4 N ([r4,r5,r7]:List Int)).bind fun r8=>cond (r8 !=0) (some (0,r8))
  ((zp (zj.r0 N) N (a1.zB,(a1.zB.length:Int),0,a0,a1)).bind fun z10=>zbq z10 (fun z=>some z) (fun y9=>
  (zp (zj.r2 N) N (y9.2.2.2.2.zQ,(y9.2.2.2.2.zQ.length:Int),0,y9.2.2.2.2)).bind fun z12=>zbq z12 (fun z=>some z) (fun y11=>
  some ((y11.2.2.2.zB.length:Int),0))))))
def zj.k (N:Nat):Kq:=⟨74,(cvv [T6,T6] [Ty.zK,Ty.zH] (zj N)),go [zey.k,zct.k,zq.k N,za4.k N,zgi.k N,zdy.k N,zil.k] {lits:=[33,34,39,50,51]} [(0,.rets {slots:=[(2,.ptr 2 0),(3,.ptr 3 0),(57,.val (Ty.sl Ty.zA)),(58,.val T6),(59,.val T6)],boxes:=[(2,Ty.zK,[]),(3,Ty.zH,[])]} [(Ty.sl Ty.zA),T6,T6,Ty.zK,Ty.zH] (zp (zj.r0 N) N)),(2,.rets {slots:=[(3,.ptr 3 0),(74,.val (Ty.sl Ty.zT)),(75,.val T6),(76,.val T6)],boxes:=[(3,Ty.zH,[])]} [(Ty.sl Ty.zT),T6,T6,Ty.zH] (zp (zj.r2 N) N))] Proofs.Tryz.func74 (hL:=⟨⟨_,_,rfl,by kernel_rfl⟩,⟨_,_,rfl,by kernel_rfl⟩,trivial⟩)⟩
def zcz (N:Nat) (a0:zK) (a1:zH):Option Int:=
 (zj N a0 a1).bind fun r1=>some r1.2
def zcz.k (N:Nat):Kq:=⟨30,(cvv [T6] [Ty.zK,Ty.zH] (zcz N)),go [zj.k N] {} [] Proofs.Tryz.func30⟩
def za1.b0 (N:Nat) (s3:List Int) (s7:List zA) (s8:Int) (s9:Int) (b1:zH):Option (Stp ((List Int) × (List zA) × Int × Int × zH)):=
 cond (decide (s9<s8)) ((idx s7 s9).bind fun x1001=>(cond (x1001.Op==18) (some (decide ((w6 (s9+1))<(b1.zB.length:Int))))
  (some false)).bind fun g1002=>cond g1002 (cond (Nat.ble ((s3.length+([(w6 (s9+1))]:List Int).length)*8) zae)
  (some (.again ((s3++([(w6 (s9+1))]:List Int)),s7,s8,(w6 (s9+1)),b1))) none)
  (some (.again (s3,s7,s8,(w6 (s9+1)),b1)))) (some (.leave (s3,s7,s8,s9,b1)))
def za1.r0 (N:Nat) (x:(List Int) × (List zA) × Int × Int × zH):=za1.b0 N x.1 x.2.1 x.2.2.1 x.2.2.2.1 x.2.2.2.2
def za1 (N:Nat) (a0:zH):Option ((List Int)):=
 (zi (za1.r0 N) N ([],a0.zB,(a0.zB.length:Int),0,a0)).bind fun y1=>some y1.1
def za1.k (N:Nat):Kq:=⟨134,(cvv [(Ty.sl T6)] [Ty.zH] (za1 N)),go [] {lits:=[28]} [(0,.plain {slots:=[(1,.ptr 1 0),(3,.own 5000003 T6),(7,.val (Ty.sl Ty.zA)),(8,.val T6),(9,.val T6)],boxes:=[(1,Ty.zH,[])]} [(Ty.sl T6),(Ty.sl Ty.zA),T6,T6,Ty.zH] (zi (za1.r0 N) N))] Proofs.Tryz.func134 (hL:=⟨⟨_,_,rfl,by kernel_rfl⟩,trivial⟩)⟩
def zy.b0 (N:Nat) (s3:List Bool) (s15:List zT) (s16:Int) (s17:Int) (b1:zH):Option (Stp ((List Bool) × (List zT) × Int × Int × zH)):=
 cond (decide (s17<s16)) ((idx s15 s17).bind fun x1001=>if 0≤x1001.Handler then(if x1001.Handler<(s3.length:Int)then((s3[x1001.Handler.toNat]?).bind fun x1002=>
  some (.again ((s3.set x1001.Handler.toNat true),s15,s16,(w6 (s17+1)),b1)))else none)else none) (some (.leave (s3,s15,s16,s17,b1)))
def zy.r0 (N:Nat) (x:(List Bool) × (List zT) × Int × Int × zH):=zy.b0 N x.1 x.2.1 x.2.2.1 x.2.2.2.1 x.2.2.2.2
def zy.b2 (N:Nat) (s3:List Bool) (s27:List Int) (s28:Int) (s29:Int):Option (Stp ((List Bool) × (List Int) × Int × Int)):=
 cond (decide (s29<s28)) ((idx s27 s29).bind fun x3001=>if 0≤x3001 then(if x3001<(s3.length:Int)then((s3[x3001.toNat]?).bind fun x3002=>
  some (.again ((s3.set x3001.toNat true),s27,s28,(w6 (s29+1)))))else none)else none) (some (.leave (s3,s27,s28,s29)))
def zy.r2 (N:Nat) (x:(List Bool) × (List Int) × Int × Int):=zy.b2 N x.1 x.2.1 x.2.2.1 x.2.2.2
def zy (N:Nat) (a0:zH):Option ((List Bool)):=
 if 0≤(a0.zB.length:Int)then(if(a0.zB.length:Int)≤(a0.zB.length:Int)then(cond (Nat.ble ((a0.zB.length:Int).toNat*1) zae)
  (if 0≤(0:Int)then(if(0:Int)<((List.replicate (a0.zB.length:Int).toNat (false:Bool)).length:Int)then(((List.replicate (a0.zB.length:Int).toNat (false:Bool))[(0:Int).toNat]?).bind fun x1=>
  (zi (zy.r0 N) N (((List.replicate (a0.zB.length:Int).toNat (false:Bool)).set ((0:Int).toNat) true),a0.zQ,(a0.zQ.length:Int),0,a0)).bind fun y2=>
  (za1 N y2.2.2.2.2).bind fun r3=>(zi (zy.r2 N) N (y2.1,r3,(r3.length:Int),0)).bind fun y4=>
  some y4.1)else none)else none) none)else none)else none
def zy.k (N:Nat):Kq:=⟨75,(cvv [(Ty.sl Ty.bool)] [Ty.zH] (zy N)),go [za1.k N] {} [(0,.plain {slots:=[(1,.ptr 1 0),(3,.own 5000003 Ty.bool),(15,.val (Ty.sl Ty.zT)),(16,.val T6),(17,.val T6)],boxes:=[(1,Ty.zH,[])]} [(Ty.sl Ty.bool),(Ty.sl Ty.zT),T6,T6,Ty.zH] (zi (zy.r0 N) N)),(2,.plain {slots:=[(3,.own 5000003 Ty.bool),(27,.val (Ty.sl T6)),(28,.val T6),(29,.val T6)],boxes:=[]} [(Ty.sl Ty.bool),(Ty.sl T6),T6,T6] (zi (zy.r2 N) N))] Proofs.Tryz.func75 (hL:=⟨⟨_,_,rfl,by kernel_rfl⟩,⟨_,_,rfl,by kernel_rfl⟩,trivial⟩)⟩
def zd6 (a0:Int):Option Bool:=
 (cond (a0==6) (some true) (some (a0==7))).bind fun g1=>(cond g1 (some true) (some (a0==8))).bind fun g2=>(cond g2 (some true) (some (a0==18))).bind fun g3=>some g3
def zd6.k:Kq:=⟨68,(cvv [Ty.bool] [T6] zd6),go [] {} [] Proofs.Tryz.func68⟩
def zdj (a0:zH) (a1:Int):Option ((List Int)):=
 (idx a0.zB a1).bind fun x1=>(cond (x1.Op==8) (some (x1.Op==8)) (cond (x1.Op==18) (some (x1.Op==18)) (cond (x1.Op==19) (some (x1.Op==19))
  (cond (x1.Op==20) (some (x1.Op==20)) (some (x1.Op==26)))))).bind fun q2=>cond q2 ((zd6 x1.Op).bind fun r3=>
  cond r3 (cond (Nat.ble (([x1.Target]:List Int).length*8) zae) (some ([x1.Target]:List Int)) none) (some []))
  (cond (decide ((w6 (a1+1))<(a0.zB.length:Int))) (cond (Nat.ble (([(w6 (a1+1))]:List Int).length*8) zae)
  ((zd6 x1.Op).bind fun r4=>cond r4 (cond (Nat.ble ((([(w6 (a1+1))]:List Int).length+([x1.Target]:List Int).length)*8) zae)
  (some (([(w6 (a1+1))]:List Int)++([x1.Target]:List Int))) none) (some ([(w6 (a1+1))]:List Int))) none)
  ((zd6 x1.Op).bind fun r5=>cond r5 (cond (Nat.ble (([x1.Target]:List Int).length*8) zae) (some ([x1.Target]:List Int)) none) (some [])))
def zdj.k:Kq:=⟨78,(cvv [(Ty.sl T6)] [Ty.zH,T6] zdj),go [zd6.k] {lits:=[23,37],bj:=[25]} [] Proofs.Tryz.func78⟩
def zcj.b0 (N:Nat) (s5:List Bool) (s6:List Int) (s13:List Bool) (s14:Int) (s15:Int) (b2:zH):Option (Stp ((List Bool) × (List Int) × (List Bool) × Int × Int × zH)):=
 cond (decide (s15<s14)) ((idx s13 s15).bind fun x1001=>cond x1001 (cond (Nat.ble ((s6.length+([s15]:List Int).length)*8) zae)
  (some (.again (s5,(s6++([s15]:List Int)),s13,s14,(w6 (s15+1)),b2))) none) (some (.again (s5,s6,s13,s14,(w6 (s15+1)),b2))))
  (some (.leave (s5,s6,s13,s14,s15,b2)))
def zcj.r0 (N:Nat) (x:(List Bool) × (List Int) × (List Bool) × Int × Int × zH):=zcj.b0 N x.1 x.2.1 x.2.2.1 x.2.2.2.1 x.2.2.2.2.1 x.2.2.2.2.2
def zcj.b2 (N:Nat) (s5:List Bool) (s6:List Int) (b2:zH):Option (Stp ((List Bool) × (List Int) × zH)):=
 cond (decide ((s6.length:Int)>0)) (if 0≤(0:Int)then(if(0:Int)<(s6.length:Int)then((s6[(0:Int).toNat]?).bind fun x3001=>
  if 0≤(1:Int)∧(1:Int)≤(s6.length:Int)then(if 0≤x3001 then(if x3001<(s5.length:Int)then((s5[x3001.toNat]?).bind fun x3002=>cond (!x3002)
  (if 0≤x3001 then(if x3001<(s5.length:Int)then((s5[x3001.toNat]?).bind fun x3003=>(zdj b2 x3001).bind fun r3004=>
  cond (Nat.ble (((s6.drop ((1:Int).toNat)).length+r3004.length)*8) zae)
  (some (.again ((s5.set x3001.toNat true),((s6.drop ((1:Int).toNat))++r3004),b2))) none)else none)else none)
  (some (.again (s5,(s6.drop ((1:Int).toNat)),b2))))else none)else none)else none)else none)else none) (some (.leave (s5,s6,b2)))
def zcj.r2 (N:Nat) (x:(List Bool) × (List Int) × zH):=zcj.b2 N x.1 x.2.1 x.2.2
def zcj (N:Nat) (a0:zH) (a1:List Bool):Option ((List Bool)):=
 if 0≤(a1.length:Int)then(if(a1.length:Int)≤(a1.length:Int)then(cond (Nat.ble ((a1.length:Int).toNat*1) zae)
  ((zi (zcj.r0 N) N ((List.replicate (a1.length:Int).toNat (false:Bool)),[],a1,(a1.length:Int),0,a0)).bind fun y1=>
  (zi (zcj.r2 N) N (y1.1,y1.2.1,y1.2.2.2.2.2)).bind fun y2=>some y2.1) none)else none)else none
def zcj.k (N:Nat):Kq:=⟨76,(cvv [(Ty.sl Ty.bool)] [Ty.zH,(Ty.sl Ty.bool)] (zcj N)),go [zdj.k] {lits:=[23,45]} [(0,.plain {slots:=[(2,.ptr 2 0),(5,.own 5000005 Ty.bool),(6,.own 5000006 T6),(13,.val (Ty.sl Ty.bool)),(14,.val T6),(15,.val T6)],boxes:=[(2,Ty.zH,[])]} [(Ty.sl Ty.bool),(Ty.sl T6),(Ty.sl Ty.bool),T6,T6,Ty.zH] (zi (zcj.r0 N) N)),(2,.plain {slots:=[(2,.ptr 2 0),(5,.own 5000005 Ty.bool),(6,.own 5000006 T6)],boxes:=[(2,Ty.zH,[])]} [(Ty.sl Ty.bool),(Ty.sl T6),Ty.zH] (zi (zcj.r2 N) N))] Proofs.Tryz.func76 (hL:=⟨⟨_,_,rfl,by kernel_rfl⟩,⟨_,_,rfl,by kernel_rfl⟩,trivial⟩)⟩
def zff (a0:zD) (a1:Int):Option Bool:=
 some (a0.Register==a1)
def zff.k:Kq:=⟨211,(ctv [.val Ty.zD,.ptr T6 false []] [Ty.bool] [] [] [Ty.zD,T6] zff),go [] {ro:=[1000000],pk:=[1000000]} [] Proofs.Tryz.func211⟩
def zx.b0 (N:Nat) (s0:List zD) (s7:Int) (s8:Int) (b1000000:Int):Option (Round Int ((List zD) × Int × Int × Int)):=
 cond (decide (s8<s7)) ((idx s0 s8).bind fun x1001=>(zff x1001 b1000000).bind fun r1002=>cond r1002 (some (.result s8))
  (some (.again (s0,s7,(w6 (s8+1)),b1000000)))) (some (.leave (s0,s7,s8,b1000000)))
def zx.r0 (N:Nat) (x:(List zD) × Int × Int × Int):=zx.b0 N x.1 x.2.1 x.2.2.1 x.2.2.2
def zx (N:Nat) (a0:List zD) (a1:Int):Option Int:=
 (zp (zx.r0 N) N (a0,(a0.length:Int),0,a1)).bind fun z2=>zbq z2 (fun z=>some z) (fun y1=>some (-1))
def zx.k (N:Nat):Kq:=⟨161,(ctv [.val (Ty.sl Ty.zD),.clo 211 1,.ptr T6 false []] [T6] [] [] [(Ty.sl Ty.zD),T6] (zx N)),go [zff.k] {ro:=[1000000],pk:=[1000000]} [(0,.rets {slots:=[(0,.val (Ty.sl Ty.zD)),(1,.fn 211 [1000000]),(7,.val T6),(8,.val T6)],boxes:=[(1000000,T6,[])]} [(Ty.sl Ty.zD),T6,T6,T6] (zp (zx.r0 N) N))] Proofs.Tryz.func161 (hL:=⟨⟨_,_,rfl,by kernel_rfl⟩,trivial⟩)⟩
def zn.b0 (N:Nat) (s0:List zD) (s5:Int) (s6:Int) (b1000000:Int):Option (Stp ((List zD) × Int × Int × Int)):=
 cond (decide (s6<(s0.length:Int))) (if 0≤s6 then(if s6<(s0.length:Int)then((s0[s6.toNat]?).bind fun x1001=>(zff x1001 b1000000).bind fun r1002=>
  cond (!r1002) (if 0≤s5 then(if s5<(s0.length:Int)then((s0[s5.toNat]?).bind fun x1003=>
  some (.again ((s0.set s5.toNat x1001),(w6 (s5+1)),(w6 (s6+1)),b1000000)))else none)else none)
  (some (.again (s0,s5,(w6 (s6+1)),b1000000))))else none)else none) (some (.leave (s0,s5,s6,b1000000)))
def zn.r0 (N:Nat) (x:(List zD) × Int × Int × Int):=zn.b0 N x.1 x.2.1 x.2.2.1 x.2.2.2
def zn (N:Nat) (a0:List zD) (a1:Int):Option ((List zD)):=
 (zx N a0 a1).bind fun r1=>cond (r1==(-1)) (some a0)
  ((zi (zn.r0 N) N (a0,r1,(w6 (r1+1)),a1)).bind fun y2=>
  if 0≤y2.2.1∧y2.2.1≤(y2.1.length:Int)then(if 0≤y2.2.1∧y2.2.1≤((y2.1.take y2.2.1.toNat++List.replicate (y2.1.length-y2.2.1.toNat)
  ((⟨0,(⟨0,0,0⟩:DataType),0⟩:zD):zD)).length:Int)then(if 0≤(0:Int)∧(0:Int)≤y2.2.1 then(some (((y2.1.take y2.2.1.toNat++List.replicate (y2.1.length-y2.2.1.toNat)
  ((⟨0,(⟨0,0,0⟩:DataType),0⟩:zD):zD)).drop ((0:Int).toNat)).take (y2.2.1.toNat-(0:Int).toNat)))else none)else none)else none)
def zn.k (N:Nat):Kq:=⟨141,(ctv [.mov Ty.zD,.clo 211 1,.ptr T6 false []] [(Ty.sl Ty.zD)] [] [0] [(Ty.sl Ty.zD),T6] (zn N)),go [zx.k N,zff.k] {ro:=[1000000],pk:=[1000000]} [(0,.plain {slots:=[(0,.own 5000000 Ty.zD),(1,.fn 211 [1000000]),(5,.val T6),(6,.val T6)],boxes:=[(1000000,T6,[])]} [(Ty.sl Ty.zD),T6,T6,T6] (zi (zn.r0 N) N))] Proofs.Tryz.func141 (hL:=⟨⟨_,_,rfl,by kernel_rfl⟩,trivial⟩)⟩
def zu8:Ct U:={params:=[.val (Ty.sl Ty.zD)],results:=[(Ty.sl Ty.zD)],outs:=[],fresh:=[0],fn:=app U [(Ty.sl Ty.zD)] (R:=PT U [(Ty.sl Ty.zD)]) (zc6 40)}
theorem zu8.meets:zif (zpo [] [] [] [] [] [] [] []) 142 zu8:=
 zn6 zwm (zun (l:=[]) rfl all_nil) (zuf (l:=[]) rfl all_nil) (Lp:=pick []) Proofs.Tryz.func142 (by kernel_rfl) (zuq (l:=[]) rfl all_nil) (fun y=>by kernel_rfl) (e:=49) (t:=Ty.zD) rfl rfl rfl rfl rfl rfl rfl (by kernel_rfl) rfl rfl rfl rfl rfl rfl (fun xs=>by kernel_rfl) fun ds y h=>by
  obtain⟨xs,rfl,hx⟩:=zyr h;refine⟨xs,rfl,fun b hb=> ?_⟩;cases b with
  | true=>
   have:=hb rfl;subst this;exact Eq.trans (by kernel_rfl) hx
  | false=>exact Eq.trans (b:=cond (Nat.ble ((0+xs.length)*40) zae) (some xs) none) (by kernel_rfl) (by rw [Nat.zero_add];exact hx)
def zu8.k:Kq:=⟨142,zu8,zu8.meets⟩
def zei (N:Nat) (a0:List zD) (a1:Int):Option ((List zD)):=
 (zc6 40 a0).bind fun r1=>(zn N r1 a1).bind fun r2=>some r2
def zei.k (N:Nat):Kq:=⟨137,(ctv [.val (Ty.sl Ty.zD),.val T6] [(Ty.sl Ty.zD)] [] [0] [(Ty.sl Ty.zD),T6] (zei N)),go [zn.k N,zu8.k] {} [] Proofs.Tryz.func137⟩
def zb1.b0 (N:Nat) (s1:Int) (s2:Int) (s7:List zD) (s10:List zD) (s11:Int) (s12:Int):Option (Stp (Int × Int × (List zD) × (List zD) × Int × Int)):=
 cond (decide (s12<s11)) ((idx s10 s12).bind fun x1001=>cond (x1001.Register==s1)
  (cond (Nat.ble ((s7.length+([(⟨s2,x1001.zF,x1001.Offset⟩:zD)]:List zD).length)*40) zae)
  (some (.again (s1,s2,(s7++([(⟨s2,x1001.zF,x1001.Offset⟩:zD)]:List zD)),s10,s11,(w6 (s12+1))))) none)
  (some (.again (s1,s2,s7,s10,s11,(w6 (s12+1)))))) (some (.leave (s1,s2,s7,s10,s11,s12)))
def zb1.r0 (N:Nat) (x:Int × Int × (List zD) × (List zD) × Int × Int):=zb1.b0 N x.1 x.2.1 x.2.2.1 x.2.2.2.1 x.2.2.2.2.1 x.2.2.2.2.2
def zb1 (N:Nat) (a0:List zD) (a1:Int) (a2:Int):Option ((List zD)):=
 (zi (zb1.r0 N) N (a1,a2,[],a0,(a0.length:Int),0)).bind fun y1=>some y1.2.2.1
def zb1.k (N:Nat):Kq:=⟨138,(cvv [(Ty.sl Ty.zD)] [(Ty.sl Ty.zD),T6,T6] (zb1 N)),go [] {lits:=[24]} [(0,.plain {slots:=[(1,.val T6),(2,.val T6),(7,.own 5000007 Ty.zD),(10,.val (Ty.sl Ty.zD)),(11,.val T6),(12,.val T6)],boxes:=[]} [T6,T6,(Ty.sl Ty.zD),(Ty.sl Ty.zD),T6,T6] (zi (zb1.r0 N) N))] Proofs.Tryz.func138 (hL:=⟨⟨_,_,rfl,by kernel_rfl⟩,trivial⟩)⟩
def zcd.b0 (N:Nat) (s1:List zD) (s5:List zD) (s34:List zD) (s35:Int) (s36:Int) (b2:zA):Option (Stp ((List zD) × (List zD) × (List zD) × Int × Int × zA)):=
 cond (decide (s36<s35)) ((idx s34 s36).bind fun x1001=>
  (cond (zdq [(x1001.zF.Kind==b2.zF.Kind),(x1001.zF.Length==b2.zF.Length),(x1001.zF.Scale==b2.zF.Scale)]) (some (x1001.Offset==b2.Place.Offset))
  (some false)).bind fun g1002=>cond g1002 ((zb1 N s1 x1001.Register b2.R).bind fun r1003=>cond (Nat.ble ((s5.length+r1003.length)*40) zae)
  (some (.again (s1,(s5++r1003),s34,s35,(w6 (s36+1)),b2))) none) (some (.again (s1,s5,s34,s35,(w6 (s36+1)),b2))))
  (some (.leave (s1,s5,s34,s35,s36,b2)))
def zcd.r0 (N:Nat) (x:(List zD) × (List zD) × (List zD) × Int × Int × zA):=zcd.b0 N x.1 x.2.1 x.2.2.1 x.2.2.2.1 x.2.2.2.2.1 x.2.2.2.2.2
def zcd (N:Nat) (a0:zA) (a1:List zD):Option ((List zD)):=
 (zei N a1 a0.R).bind fun r1=>cond (Nat.ble ((r1.length+([(⟨a0.R,a0.zF,(-1)⟩:zD)]:List zD).length)*40) zae)
  (cond a0.Place.Based (some (r1++([(⟨a0.R,a0.zF,(-1)⟩:zD)]:List zD)))
  (cond (Nat.ble (((r1++([(⟨a0.R,a0.zF,(-1)⟩:zD)]:List zD)).length+([(⟨a0.R,a0.zF,a0.Place.Offset⟩:zD)]:List zD).length)*40) zae)
  ((zi (zcd.r0 N) N (a1,((r1++([(⟨a0.R,a0.zF,(-1)⟩:zD)]:List zD))++([(⟨a0.R,a0.zF,a0.Place.Offset⟩:zD)]:List zD)),a1,(a1.length:Int),0,a0)).bind fun y2=>
  some y2.2.1) none)) none
def zcd.k (N:Nat):Kq:=⟨136,(ctv [.val Ty.zA,.val (Ty.sl Ty.zD)] [(Ty.sl Ty.zD)] [] [0] [Ty.zA,(Ty.sl Ty.zD)] (zcd N)),go [zei.k N,zb1.k N] {lits:=[17,32,59]} [(0,.plain {slots:=[(1,.val (Ty.sl Ty.zD)),(2,.ptr 2 0),(5,.own 5000005 Ty.zD),(34,.val (Ty.sl Ty.zD)),(35,.val T6),(36,.val T6)],boxes:=[(2,Ty.zA,[])]} [(Ty.sl Ty.zD),(Ty.sl Ty.zD),(Ty.sl Ty.zD),T6,T6,Ty.zA] (zi (zcd.r0 N) N))] Proofs.Tryz.func136 (hL:=⟨⟨_,_,rfl,by kernel_rfl⟩,trivial⟩)⟩
def zgu (a0:zD):Option Bool:=
 some (a0.Offset !=(-1))
def zgu.k:Kq:=⟨290,(cvv [Ty.bool] [Ty.zD] zgu),go [] {} [] Proofs.Tryz.func290⟩
def zu.b0 (N:Nat) (s0:List zD) (s7:Int) (s8:Int):Option (Round Int ((List zD) × Int × Int)):=
 cond (decide (s8<s7)) ((idx s0 s8).bind fun x1001=>(zgu x1001).bind fun r1002=>cond r1002 (some (.result s8))
  (some (.again (s0,s7,(w6 (s8+1)))))) (some (.leave (s0,s7,s8)))
def zu.r0 (N:Nat) (x:(List zD) × Int × Int):=zu.b0 N x.1 x.2.1 x.2.2
def zu (N:Nat) (a0:List zD):Option Int:=
 (zp (zu.r0 N) N (a0,(a0.length:Int),0)).bind fun z2=>zbq z2 (fun z=>some z) (fun y1=>some (-1))
def zu.k (N:Nat):Kq:=⟨161,(ctv [.val (Ty.sl Ty.zD),.clo 290 0] [T6] [] [] [(Ty.sl Ty.zD)] (zu N)),go [zgu.k] {} [(0,.rets {slots:=[(0,.val (Ty.sl Ty.zD)),(1,.fn 290 []),(7,.val T6),(8,.val T6)],boxes:=[]} [(Ty.sl Ty.zD),T6,T6] (zp (zu.r0 N) N))] Proofs.Tryz.func161 (hL:=⟨⟨_,_,rfl,by kernel_rfl⟩,trivial⟩)⟩
def zl.b0 (N:Nat) (s0:List zD) (s5:Int) (s6:Int):Option (Stp ((List zD) × Int × Int)):=
 cond (decide (s6<(s0.length:Int))) (if 0≤s6 then(if s6<(s0.length:Int)then((s0[s6.toNat]?).bind fun x1001=>(zgu x1001).bind fun r1002=>cond (!r1002)
  (if 0≤s5 then(if s5<(s0.length:Int)then((s0[s5.toNat]?).bind fun x1003=>
  some (.again ((s0.set s5.toNat x1001),(w6 (s5+1)),(w6 (s6+1)))))else none)else none)
  (some (.again (s0,s5,(w6 (s6+1))))))else none)else none) (some (.leave (s0,s5,s6)))
def zl.r0 (N:Nat) (x:(List zD) × Int × Int):=zl.b0 N x.1 x.2.1 x.2.2
def zl (N:Nat) (a0:List zD):Option ((List zD)):=
 (zu N a0).bind fun r1=>cond (r1==(-1)) (some a0)
  ((zi (zl.r0 N) N (a0,r1,(w6 (r1+1)))).bind fun y2=>
  if 0≤y2.2.1∧y2.2.1≤(y2.1.length:Int)then(if 0≤y2.2.1∧y2.2.1≤((y2.1.take y2.2.1.toNat++List.replicate (y2.1.length-y2.2.1.toNat)
  ((⟨0,(⟨0,0,0⟩:DataType),0⟩:zD):zD)).length:Int)then(if 0≤(0:Int)∧(0:Int)≤y2.2.1 then(some (((y2.1.take y2.2.1.toNat++List.replicate (y2.1.length-y2.2.1.toNat)
  ((⟨0,(⟨0,0,0⟩:DataType),0⟩:zD):zD)).drop ((0:Int).toNat)).take (y2.2.1.toNat-(0:Int).toNat)))else none)else none)else none)
def zl.k (N:Nat):Kq:=⟨141,(ctv [.mov Ty.zD,.clo 290 0] [(Ty.sl Ty.zD)] [] [0] [(Ty.sl Ty.zD)] (zl N)),go [zu.k N,zgu.k] {} [(0,.plain {slots:=[(0,.own 5000000 Ty.zD),(1,.fn 290 []),(5,.val T6),(6,.val T6)],boxes:=[]} [(Ty.sl Ty.zD),T6,T6] (zi (zl.r0 N) N))] Proofs.Tryz.func141 (hL:=⟨⟨_,_,rfl,by kernel_rfl⟩,trivial⟩)⟩
def zjz (N:Nat) (a0:List zD):Option ((List zD)):=
 (zc6 40 a0).bind fun r1=>(zl N r1).bind fun r2=>some r2
def zjz.k (N:Nat):Kq:=⟨212,(ctv [.val (Ty.sl Ty.zD)] [(Ty.sl Ty.zD)] [] [0] [(Ty.sl Ty.zD)] (zjz N)),go [zl.k N,zu8.k] {} [] Proofs.Tryz.func212⟩
def zfq (N:Nat) (a0:DataType):Option Int:=
 (zfr N a0).bind fun r1=>some r1.1
def zfq.k (N:Nat):Kq:=⟨160,(cvv [T6] [Ty.DataType] (zfq N)),go [zfr.k N] {} [] Proofs.Tryz.func160⟩
def zfc (N:Nat) (a0:zD) (a1:Int) (a2:Int):Option Bool:=
 (cond (a0.Offset !=(-1)) (some (decide (a0.Offset<(w6 (a1+a2))))) (some false)).bind fun g1=>(cond g1 ((zfq N a0.zF).bind fun r2=>
  some (decide (a1<(w6 (a0.Offset+r2))))) (some false)).bind fun g3=>some g3
def zfc.k (N:Nat):Kq:=⟨213,(ctv [.val Ty.zD,.ptr T6 false [],.ptr T6 false []] [Ty.bool] [] [] [Ty.zD,T6,T6] (zfc N)),go [zfq.k N] {ro:=[1000000,1000001],pk:=[1000000,1000001]} [] Proofs.Tryz.func213⟩
def zw.b0 (N:Nat) (s0:List zD) (s7:Int) (s8:Int) (b1000000:Int) (b1000001:Int):Option (Round Int ((List zD) × Int × Int × Int × Int)):=
 cond (decide (s8<s7)) ((idx s0 s8).bind fun x1001=>(zfc N x1001 b1000000 b1000001).bind fun r1002=>cond r1002 (some (.result s8))
  (some (.again (s0,s7,(w6 (s8+1)),b1000000,b1000001)))) (some (.leave (s0,s7,s8,b1000000,b1000001)))
def zw.r0 (N:Nat) (x:(List zD) × Int × Int × Int × Int):=zw.b0 N x.1 x.2.1 x.2.2.1 x.2.2.2.1 x.2.2.2.2
def zw (N:Nat) (a0:List zD) (a1:Int) (a2:Int):Option Int:=
 (zp (zw.r0 N) N (a0,(a0.length:Int),0,a1,a2)).bind fun z2=>zbq z2 (fun z=>some z) (fun y1=>some (-1))
def zw.k (N:Nat):Kq:=⟨161,(ctv [.val (Ty.sl Ty.zD),.clo 213 2,.ptr T6 false [],.ptr T6 false []] [T6] [] [] [(Ty.sl Ty.zD),T6,T6] (zw N)),go [zfc.k N] {ro:=[1000000,1000001],pk:=[1000000,1000001]} [(0,.rets {slots:=[(0,.val (Ty.sl Ty.zD)),(1,.fn 213 [1000000,1000001]),(7,.val T6),(8,.val T6)],boxes:=[(1000000,T6,[]),(1000001,T6,[])]} [(Ty.sl Ty.zD),T6,T6,T6,T6] (zp (zw.r0 N) N))] Proofs.Tryz.func161 (hL:=⟨⟨_,_,rfl,by kernel_rfl⟩,trivial⟩)⟩
def zm.b0 (N:Nat) (s0:List zD) (s5:Int) (s6:Int) (b1000000:Int) (b1000001:Int):Option (Stp ((List zD) × Int × Int × Int × Int)):=
 cond (decide (s6<(s0.length:Int))) (if 0≤s6 then(if s6<(s0.length:Int)then((s0[s6.toNat]?).bind fun x1001=>
  (zfc N x1001 b1000000 b1000001).bind fun r1002=>cond (!r1002) (if 0≤s5 then(if s5<(s0.length:Int)then((s0[s5.toNat]?).bind fun x1003=>
  some (.again ((s0.set s5.toNat x1001),(w6 (s5+1)),(w6 (s6+1)),b1000000,b1000001)))else none)else none)
  (some (.again (s0,s5,(w6 (s6+1)),b1000000,b1000001))))else none)else none) (some (.leave (s0,s5,s6,b1000000,b1000001)))
def zm.r0 (N:Nat) (x:(List zD) × Int × Int × Int × Int):=zm.b0 N x.1 x.2.1 x.2.2.1 x.2.2.2.1 x.2.2.2.2
def zm (N:Nat) (a0:List zD) (a1:Int) (a2:Int):Option ((List zD)):=
 (zw N a0 a1 a2).bind fun r1=>cond (r1==(-1)) (some a0)
  ((zi (zm.r0 N) N (a0,r1,(w6 (r1+1)),a1,a2)).bind fun y2=>
  if 0≤y2.2.1∧y2.2.1≤(y2.1.length:Int)then(if 0≤y2.2.1∧y2.2.1≤((y2.1.take y2.2.1.toNat++List.replicate (y2.1.length-y2.2.1.toNat)
  ((⟨0,(⟨0,0,0⟩:DataType),0⟩:zD):zD)).length:Int)then(if 0≤(0:Int)∧(0:Int)≤y2.2.1 then(some (((y2.1.take y2.2.1.toNat++List.replicate (y2.1.length-y2.2.1.toNat)
  ((⟨0,(⟨0,0,0⟩:DataType),0⟩:zD):zD)).drop ((0:Int).toNat)).take (y2.2.1.toNat-(0:Int).toNat)))else none)else none)else none)
def zm.k (N:Nat):Kq:=⟨141,(ctv [.mov Ty.zD,.clo 213 2,.ptr T6 false [],.ptr T6 false []] [(Ty.sl Ty.zD)] [] [0] [(Ty.sl Ty.zD),T6,T6] (zm N)),go [zw.k N,zfc.k N] {ro:=[1000000,1000001],pk:=[1000000,1000001]} [(0,.plain {slots:=[(0,.own 5000000 Ty.zD),(1,.fn 213 [1000000,1000001]),(5,.val T6),(6,.val T6)],boxes:=[(1000000,T6,[]),(1000001,T6,[])]} [(Ty.sl Ty.zD),T6,T6,T6,T6] (zi (zm.r0 N) N))] Proofs.Tryz.func141 (hL:=⟨⟨_,_,rfl,by kernel_rfl⟩,trivial⟩)⟩
def zgx (N:Nat) (a0:List zD) (a1:Int) (a2:Int):Option ((List zD)):=
 (zc6 40 a0).bind fun r1=>(zm N r1 a1 a2).bind fun r2=>some r2
def zgx.k (N:Nat):Kq:=⟨140,(ctv [.val (Ty.sl Ty.zD),.val T6,.val T6] [(Ty.sl Ty.zD)] [] [0] [(Ty.sl Ty.zD),T6,T6] (zgx N)),go [zm.k N,zu8.k] {} [] Proofs.Tryz.func140⟩
def zaz.b0 (N:Nat) (s0:List zD) (s7:Int) (s8:Int) (b3:zD):Option (Round Int ((List zD) × Int × Int × zD)):=
 cond (decide (s8<s7)) ((idx s0 s8).bind fun x1001=>
  cond (zdq [(b3.Register==x1001.Register),(b3.zF.Kind==x1001.zF.Kind),(b3.zF.Length==x1001.zF.Length),(b3.zF.Scale==x1001.zF.Scale),(b3.Offset==x1001.Offset)])
  (some (.result s8)) (some (.again (s0,s7,(w6 (s8+1)),b3)))) (some (.leave (s0,s7,s8,b3)))
def zaz.r0 (N:Nat) (x:(List zD) × Int × Int × zD):=zaz.b0 N x.1 x.2.1 x.2.2.1 x.2.2.2
def zaz (N:Nat) (a0:List zD) (a1:zD):Option Int:=
 (zp (zaz.r0 N) N (a0,(a0.length:Int),0,a1)).bind fun z2=>zbq z2 (fun z=>some z) (fun y1=>some (-1))
def zaz.k (N:Nat):Kq:=⟨162,(cvv [T6] [(Ty.sl Ty.zD),Ty.zD] (zaz N)),go [] {} [(0,.rets {slots:=[(0,.val (Ty.sl Ty.zD)),(3,.ptr 3 0),(7,.val T6),(8,.val T6)],boxes:=[(3,Ty.zD,[])]} [(Ty.sl Ty.zD),T6,T6,Ty.zD] (zp (zaz.r0 N) N))] Proofs.Tryz.func162 (hL:=⟨⟨_,_,rfl,by kernel_rfl⟩,trivial⟩)⟩
def zbd (N:Nat) (a0:List zD) (a1:zD):Option Bool:=
 (zaz N a0 a1).bind fun r1=>some (decide (r1≥0))
def zbd.k (N:Nat):Kq:=⟨97,(cvv [Ty.bool] [(Ty.sl Ty.zD),Ty.zD] (zbd N)),go [zaz.k N] {} [] Proofs.Tryz.func97⟩
def zh2 (N:Nat) (a0:zA) (a1:List zD):Option ((List zD)):=
 cond a0.Place.Based ((zjz N a1).bind fun r1=>some r1) ((zfq N a0.zF).bind fun r2=>(zgx N a1 a0.Place.Offset r2).bind fun r3=>
  (cond (a0.Op==1) ((zbd N a1 (⟨a0.R,a0.zF,(-1)⟩:zD)).bind fun r4=>some r4) (some false)).bind fun g5=>
  cond g5 (cond (Nat.ble ((r3.length+([(⟨a0.R,a0.zF,a0.Place.Offset⟩:zD)]:List zD).length)*40) zae)
  (some (r3++([(⟨a0.R,a0.zF,a0.Place.Offset⟩:zD)]:List zD))) none) (some r3))
def zh2.k (N:Nat):Kq:=⟨139,(ctv [.val Ty.zA,.val (Ty.sl Ty.zD)] [(Ty.sl Ty.zD)] [] [0] [Ty.zA,(Ty.sl Ty.zD)] (zh2 N)),go [zbd.k N,zgx.k N,zfq.k N,zjz.k N] {lits:=[17,40]} [] Proofs.Tryz.func139⟩
def z2q:Ct U:={params:=[.mov Ty.zD],results:=[(Ty.sl Ty.zD)],outs:=[],fresh:=[0],fn:=app U [(Ty.sl Ty.zD)] (R:=PT U [(Ty.sl Ty.zD)]) (zpy Proofs.Tryz.ltF Proofs.Tryz.okF)}
theorem z2q.meets:zif (zpo [] [] [] [] [] [] [] []) 135 z2q:=z4v
def z2q.k:Kq:=⟨135,z2q,z2q.meets⟩
def zf8 (N:Nat) (a0:zA) (a1:List zD):Option ((List zD)):=
 cond (a0.Op==0) ((zcd N a0 a1).bind fun r1=>(zpy Proofs.Tryz.ltF Proofs.Tryz.okF r1).bind fun r2=>some r2) (cond (a0.Op==4)
  ((zei N a1 a0.R).bind fun r3=>cond (Nat.ble ((r3.length+([(⟨a0.R,a0.zF,(-1)⟩:zD)]:List zD).length)*40) zae)
  ((zpy Proofs.Tryz.ltF Proofs.Tryz.okF (r3++([(⟨a0.R,a0.zF,(-1)⟩:zD)]:List zD))).bind fun r4=>some r4) none) ((cond (a0.Op==2) (some (a0.Op==2))
  (some (a0.Op==21))).bind fun q5=>cond q5 ((zei N a1 a0.R).bind fun r6=>some r6) (cond (a0.Op==3) ((zei N a1 a0.R).bind fun r7=>
  (zb1 N a1 a0.A a0.R).bind fun r8=>cond (Nat.ble ((r7.length+r8.length)*40) zae) ((zpy Proofs.Tryz.ltF Proofs.Tryz.okF (r7++r8)).bind fun r9=>some r9) none)
  ((cond (a0.Op==1) (some (a0.Op==1)) (cond (a0.Op==9) (some (a0.Op==9)) (some (a0.Op==10)))).bind fun q10=>cond q10 ((zh2 N a0 a1).bind fun r11=>
  (zpy Proofs.Tryz.ltF Proofs.Tryz.okF r11).bind fun r12=>some r12) ((cond (a0.Op==14) (some (a0.Op==14)) (cond (a0.Op==15) (some (a0.Op==15))
  (some (a0.Op==16)))).bind fun q13=>cond q13 ((zgx N a1 a0.Pointer 16).bind fun r14=>some r14) (some a1))))))
def zf8.k (N:Nat):Kq:=⟨77,(cvv [(Ty.sl Ty.zD)] [Ty.zA,(Ty.sl Ty.zD)] (zf8 N)),go [z2q.k,zcd.k N,zei.k N,zb1.k N,zh2.k N,zgx.k N] {lits:=[24,45],bj:=[27,48,56]} [] Proofs.Tryz.func77⟩
def zg2 (N:Nat) (a0:zD) (a1:List zD):Option Bool:=
 (zbd N a1 a0).bind fun r1=>some (!r1)
def zg2.k (N:Nat):Kq:=⟨143,(ctv [.val Ty.zD,.ptr (Ty.sl Ty.zD) false []] [Ty.bool] [] [] [Ty.zD,(Ty.sl Ty.zD)] (zg2 N)),go [zbd.k N] {ro:=[1000000],pk:=[1000000]} [] Proofs.Tryz.func143⟩
def zbm.b0 (N:Nat) (s0:List zD) (s7:Int) (s8:Int) (b1000000:List zD):Option (Round Int ((List zD) × Int × Int × (List zD))):=
 cond (decide (s8<s7)) ((idx s0 s8).bind fun x1001=>(zg2 N x1001 b1000000).bind fun r1002=>cond r1002 (some (.result s8))
  (some (.again (s0,s7,(w6 (s8+1)),b1000000)))) (some (.leave (s0,s7,s8,b1000000)))
def zbm.r0 (N:Nat) (x:(List zD) × Int × Int × (List zD)):=zbm.b0 N x.1 x.2.1 x.2.2.1 x.2.2.2
def zbm (N:Nat) (a0:List zD) (a1:List zD):Option Int:=
 (zp (zbm.r0 N) N (a0,(a0.length:Int),0,a1)).bind fun z2=>zbq z2 (fun z=>some z) (fun y1=>some (-1))
def zbm.k (N:Nat):Kq:=⟨161,(ctv [.val (Ty.sl Ty.zD),.clo 143 1,.ptr (Ty.sl Ty.zD) false []] [T6] [] [] [(Ty.sl Ty.zD),(Ty.sl Ty.zD)] (zbm N)),go [zg2.k N] {ro:=[1000000],pk:=[1000000]} [(0,.rets {slots:=[(0,.val (Ty.sl Ty.zD)),(1,.fn 143 [1000000]),(7,.val T6),(8,.val T6)],boxes:=[(1000000,(Ty.sl Ty.zD),[])]} [(Ty.sl Ty.zD),T6,T6,(Ty.sl Ty.zD)] (zp (zbm.r0 N) N))] Proofs.Tryz.func161 (hL:=⟨⟨_,_,rfl,by kernel_rfl⟩,trivial⟩)⟩
def zbg.b0 (N:Nat) (s0:List zD) (s5:Int) (s6:Int) (b1000000:List zD):Option (Stp ((List zD) × Int × Int × (List zD))):=
 cond (decide (s6<(s0.length:Int))) (if 0≤s6 then(if s6<(s0.length:Int)then((s0[s6.toNat]?).bind fun x1001=>(zg2 N x1001 b1000000).bind fun r1002=>
  cond (!r1002) (if 0≤s5 then(if s5<(s0.length:Int)then((s0[s5.toNat]?).bind fun x1003=>
  some (.again ((s0.set s5.toNat x1001),(w6 (s5+1)),(w6 (s6+1)),b1000000)))else none)else none)
  (some (.again (s0,s5,(w6 (s6+1)),b1000000))))else none)else none) (some (.leave (s0,s5,s6,b1000000)))
def zbg.r0 (N:Nat) (x:(List zD) × Int × Int × (List zD)):=zbg.b0 N x.1 x.2.1 x.2.2.1 x.2.2.2
def zbg (N:Nat) (a0:List zD) (a1:List zD):Option ((List zD)):=
 (zbm N a0 a1).bind fun r1=>cond (r1==(-1)) (some a0)
  ((zi (zbg.r0 N) N (a0,r1,(w6 (r1+1)),a1)).bind fun y2=>
  if 0≤y2.2.1∧y2.2.1≤(y2.1.length:Int)then(if 0≤y2.2.1∧y2.2.1≤((y2.1.take y2.2.1.toNat++List.replicate (y2.1.length-y2.2.1.toNat)
  ((⟨0,(⟨0,0,0⟩:DataType),0⟩:zD):zD)).length:Int)then(if 0≤(0:Int)∧(0:Int)≤y2.2.1 then(some (((y2.1.take y2.2.1.toNat++List.replicate (y2.1.length-y2.2.1.toNat)
  ((⟨0,(⟨0,0,0⟩:DataType),0⟩:zD):zD)).drop ((0:Int).toNat)).take (y2.2.1.toNat-(0:Int).toNat)))else none)else none)else none)
def zbg.k (N:Nat):Kq:=⟨141,(ctv [.mov Ty.zD,.clo 143 1,.ptr (Ty.sl Ty.zD) false []] [(Ty.sl Ty.zD)] [] [0] [(Ty.sl Ty.zD),(Ty.sl Ty.zD)] (zbg N)),go [zg2.k N,zbm.k N] {ro:=[1000000],pk:=[1000000]} [(0,.plain {slots:=[(0,.own 5000000 Ty.zD),(1,.fn 143 [1000000]),(5,.val T6),(6,.val T6)],boxes:=[(1000000,(Ty.sl Ty.zD),[])]} [(Ty.sl Ty.zD),T6,T6,(Ty.sl Ty.zD)] (zi (zbg.r0 N) N))] Proofs.Tryz.func141 (hL:=⟨⟨_,_,rfl,by kernel_rfl⟩,trivial⟩)⟩
def zl7 (N:Nat) (a0:List zD) (a1:List zD):Option ((List zD)):=
 (zc6 40 a0).bind fun r1=>(zbg N r1 a1).bind fun r2=>some r2
def zl7.k (N:Nat):Kq:=⟨79,(cvv [(Ty.sl Ty.zD)] [(Ty.sl Ty.zD),(Ty.sl Ty.zD)] (zl7 N)),go [zbg.k N,zu8.k] {} [] Proofs.Tryz.func79⟩
def zba.b0 (N:Nat) (s3:List Bool) (s4:List Bool) (s5:List (List zD)) (s6:List Bool) (s7:List Int) (s28:Int) (s29:Int) (b1:zH):Option (Stp ((List Bool) × (List Bool) × (List (List zD)) × (List Bool) × (List Int) × Int × Int × zH)):=
 cond (decide (s29<s28)) ((idx s3 s29).bind fun x1001=>(cond x1001 (some true) ((idx s4 s29).bind fun x1002=>some (!x1002))).bind fun g1003=>
  cond g1003 (if 0≤s29 then(if s29<(s6.length:Int)then((s6[s29.toNat]?).bind fun x1004=>cond (Nat.ble ((s7.length+([s29]:List Int).length)*8) zae)
  (some (.again (s3,s4,s5,(s6.set s29.toNat true),(s7++([s29]:List Int)),s28,(w6 (s29+1)),b1))) none)else none)else none)
  (some (.again (s3,s4,s5,s6,s7,s28,(w6 (s29+1)),b1)))) (some (.leave (s3,s4,s5,s6,s7,s28,s29,b1)))
def zba.r0 (N:Nat) (x:(List Bool) × (List Bool) × (List (List zD)) × (List Bool) × (List Int) × Int × Int × zH):=zba.b0 N x.1 x.2.1 x.2.2.1 x.2.2.2.1 x.2.2.2.2.1 x.2.2.2.2.2.1 x.2.2.2.2.2.2.1 x.2.2.2.2.2.2.2
def zba.b4 (N:Nat) (s3:List Bool) (s4:List Bool) (s5:List (List zD)) (s6:List Bool) (s10:List zD) (s71:List Int) (s72:Int) (s73:Int) (s7:List Int) (b1:zH):Option (Stp ((List Bool) × (List Bool) × (List (List zD)) × (List Bool) × (List zD) × (List Int) × Int × Int × (List Int) × zH)):=
 cond (decide (s73<s72)) ((idx s71 s73).bind fun x5001=>(idx s3 x5001).bind fun x5002=>(cond x5002 (some true) ((idx s4 x5001).bind fun x5003=>
  some (!x5003))).bind fun g5004=>cond g5004 (some (.again (s3,s4,s5,s6,s10,s71,s72,(w6 (s73+1)),s7,b1)))
  (if 0≤x5001 then(if x5001<(s6.length:Int)then((s6[x5001.toNat]?).bind fun x5005=>
  cond x5005 (if 0≤x5001 then(if x5001<(s5.length:Int)then((s5[x5001.toNat]?).bind fun x5006=>(zl7 N x5006 s10).bind fun r5007=>
  if 0≤x5001 then(if x5001<(s6.length:Int)then((s6[x5001.toNat]?).bind fun x5008=>(cond (!x5008) (some true)
  (if 0≤x5001 then(if x5001<(s5.length:Int)then((s5[x5001.toNat]?).bind fun x5009=>
  some (decide ((r5007.length:Int)<(x5009.length:Int))))else none)else none)).bind fun g5010=>
  cond g5010 (if 0≤x5001 then(if x5001<(s6.length:Int)then((s6[x5001.toNat]?).bind fun x5011=>
  if 0≤x5001 then(if x5001<(s5.length:Int)then((s5[x5001.toNat]?).bind fun x5012=>cond (Nat.ble ((s7.length+([x5001]:List Int).length)*8) zae)
  (some (.again (s3,s4,(s5.set x5001.toNat r5007),(s6.set x5001.toNat true),s10,s71,s72,(w6 (s73+1)),(s7++([x5001]:List Int)),b1))) none)else none)else none)else none)else none)
  (some (.again (s3,s4,s5,s6,s10,s71,s72,(w6 (s73+1)),s7,b1))))else none)else none)else none)else none)
  (if 0≤x5001 then(if x5001<(s6.length:Int)then((s6[x5001.toNat]?).bind fun x5013=>(cond (!x5013) (some true)
  (if 0≤x5001 then(if x5001<(s5.length:Int)then((s5[x5001.toNat]?).bind fun x5014=>
  some (decide ((s10.length:Int)<(x5014.length:Int))))else none)else none)).bind fun g5015=>
  cond g5015 (if 0≤x5001 then(if x5001<(s6.length:Int)then((s6[x5001.toNat]?).bind fun x5016=>
  if 0≤x5001 then(if x5001<(s5.length:Int)then((s5[x5001.toNat]?).bind fun x5017=>cond (Nat.ble ((s7.length+([x5001]:List Int).length)*8) zae)
  (some (.again (s3,s4,(s5.set x5001.toNat s10),(s6.set x5001.toNat true),s10,s71,s72,(w6 (s73+1)),(s7++([x5001]:List Int)),b1))) none)else none)else none)else none)else none)
  (some (.again (s3,s4,s5,s6,s10,s71,s72,(w6 (s73+1)),s7,b1))))else none)else none))else none)else none))
  (some (.leave (s3,s4,s5,s6,s10,s71,s72,s73,s7,b1)))
def zba.r4 (N:Nat) (x:(List Bool) × (List Bool) × (List (List zD)) × (List Bool) × (List zD) × (List Int) × Int × Int × (List Int) × zH):=zba.b4 N x.1 x.2.1 x.2.2.1 x.2.2.2.1 x.2.2.2.2.1 x.2.2.2.2.2.1 x.2.2.2.2.2.2.1 x.2.2.2.2.2.2.2.1 x.2.2.2.2.2.2.2.2.1 x.2.2.2.2.2.2.2.2.2
def zba.b2 (N:Nat) (s3:List Bool) (s4:List Bool) (s5:List (List zD)) (s6:List Bool) (s7:List Int) (b1:zH):Option (Stp ((List Bool) × (List Bool) × (List (List zD)) × (List Bool) × (List Int) × zH)):=
 cond (decide ((s7.length:Int)>0)) (if 0≤(0:Int)then(if(0:Int)<(s7.length:Int)then((s7[(0:Int).toNat]?).bind fun x3001=>
  if 0≤(1:Int)∧(1:Int)≤(s7.length:Int)then((idx b1.zB x3001).bind fun x3002=>
  if 0≤x3001 then(if x3001<(s5.length:Int)then((s5[x3001.toNat]?).bind fun x3003=>(zf8 N x3002 x3003).bind fun r3004=>
  (zdj b1 x3001).bind fun r3005=>
  (zi (zba.r4 N) N (s3,s4,s5,s6,r3004,r3005,(r3005.length:Int),0,(s7.drop ((1:Int).toNat)),b1)).bind fun y3006=>
  some (.again (y3006.1,y3006.2.1,y3006.2.2.1,y3006.2.2.2.1,y3006.2.2.2.2.2.2.2.2.1,y3006.2.2.2.2.2.2.2.2.2)))else none)else none)else none)else none)else none)
  (some (.leave (s3,s4,s5,s6,s7,b1)))
def zba.r2 (N:Nat) (x:(List Bool) × (List Bool) × (List (List zD)) × (List Bool) × (List Int) × zH):=zba.b2 N x.1 x.2.1 x.2.2.1 x.2.2.2.1 x.2.2.2.2.1 x.2.2.2.2.2
def zba (N:Nat) (a0:zH):Option ((List (List zD))):=
 (zy N a0).bind fun r1=>(zcj N a0 r1).bind fun r2=>
  if 0≤(a0.zB.length:Int)then(if(a0.zB.length:Int)≤(a0.zB.length:Int)then(cond (Nat.ble ((a0.zB.length:Int).toNat*24) zae)
  (if 0≤(a0.zB.length:Int)then(if(a0.zB.length:Int)≤(a0.zB.length:Int)then(cond (Nat.ble ((a0.zB.length:Int).toNat*1) zae)
  ((zi (zba.r0 N) N (r1,r2,(List.replicate (a0.zB.length:Int).toNat ([]:List zD)),(List.replicate (a0.zB.length:Int).toNat (false:Bool)),[],((List.replicate (a0.zB.length:Int).toNat ([]:List zD)).length:Int),0,a0)).bind fun y3=>
  (zi (zba.r2 N) N (y3.1,y3.2.1,y3.2.2.1,y3.2.2.2.1,y3.2.2.2.2.1,y3.2.2.2.2.2.2.2)).bind fun y4=>
  some y4.2.2.1) none)else none)else none) none)else none)else none
def zba.k (N:Nat):Kq:=⟨31,(cvv [(Ty.sl (Ty.sl Ty.zD))] [Ty.zH] (zba N)),go [zy.k N,zcj.k N,zf8.k N,zdj.k,zl7.k N] {lits:=[48,123]} [(0,.plain {slots:=[(1,.ptr 1 0),(3,.val (Ty.sl Ty.bool)),(4,.val (Ty.sl Ty.bool)),(5,.own 5000005 (Ty.sl Ty.zD)),(6,.own 5000006 Ty.bool),(7,.own 5000007 T6),(28,.val T6),(29,.val T6)],boxes:=[(1,Ty.zH,[])]} [(Ty.sl Ty.bool),(Ty.sl Ty.bool),(Ty.sl (Ty.sl Ty.zD)),(Ty.sl Ty.bool),(Ty.sl T6),T6,T6,Ty.zH] (zi (zba.r0 N) N)),(4,.plain {slots:=[(1,.ptr 1 0),(3,.val (Ty.sl Ty.bool)),(4,.val (Ty.sl Ty.bool)),(5,.own 5000005 (Ty.sl Ty.zD)),(6,.own 5000006 Ty.bool),(10,.val (Ty.sl Ty.zD)),(71,.val (Ty.sl T6)),(72,.val T6),(73,.val T6),(7,.own 5000007 T6)],boxes:=[(1,Ty.zH,[])]} [(Ty.sl Ty.bool),(Ty.sl Ty.bool),(Ty.sl (Ty.sl Ty.zD)),(Ty.sl Ty.bool),(Ty.sl Ty.zD),(Ty.sl T6),T6,T6,(Ty.sl T6),Ty.zH] (zi (zba.r4 N) N)),(2,.plain {slots:=[(1,.ptr 1 0),(3,.val (Ty.sl Ty.bool)),(4,.val (Ty.sl Ty.bool)),(5,.own 5000005 (Ty.sl Ty.zD)),(6,.own 5000006 Ty.bool),(7,.own 5000007 T6)],boxes:=[(1,Ty.zH,[])]} [(Ty.sl Ty.bool),(Ty.sl Ty.bool),(Ty.sl (Ty.sl Ty.zD)),(Ty.sl Ty.bool),(Ty.sl T6),Ty.zH] (zi (zba.r2 N) N))] Proofs.Tryz.func31 (hL:=⟨⟨_,_,rfl,by kernel_rfl⟩,⟨_,_,rfl,by kernel_rfl⟩,⟨_,_,rfl,by kernel_rfl⟩,trivial⟩)⟩
def zjj (a0:List zD):Option Bool:=
 some (decide ((a0.length:Int)>60))
def zjj.k:Kq:=⟨33,(cvv [Ty.bool] [(Ty.sl Ty.zD)] zjj),go [] {} [] Proofs.Tryz.func33⟩
def zbn.b0 (N:Nat) (s0:List (List zD)) (s7:Int) (s8:Int):Option (Round Int ((List (List zD)) × Int × Int)):=
 cond (decide (s8<s7)) ((idx s0 s8).bind fun x1001=>(zjj x1001).bind fun r1002=>cond r1002 (some (.result s8))
  (some (.again (s0,s7,(w6 (s8+1)))))) (some (.leave (s0,s7,s8)))
def zbn.r0 (N:Nat) (x:(List (List zD)) × Int × Int):=zbn.b0 N x.1 x.2.1 x.2.2
def zbn (N:Nat) (a0:List (List zD)):Option Int:=
 (zp (zbn.r0 N) N (a0,(a0.length:Int),0)).bind fun z2=>zbq z2 (fun z=>some z) (fun y1=>some (-1))
def zbn.k (N:Nat):Kq:=⟨80,(ctv [.val (Ty.sl (Ty.sl Ty.zD)),.clo 33 0] [T6] [] [] [(Ty.sl (Ty.sl Ty.zD))] (zbn N)),go [zjj.k] {} [(0,.rets {slots:=[(0,.val (Ty.sl (Ty.sl Ty.zD))),(1,.fn 33 []),(7,.val T6),(8,.val T6)],boxes:=[]} [(Ty.sl (Ty.sl Ty.zD)),T6,T6] (zp (zbn.r0 N) N))] Proofs.Tryz.func80 (hL:=⟨⟨_,_,rfl,by kernel_rfl⟩,trivial⟩)⟩
def zew (N:Nat) (a0:List (List zD)):Option Bool:=
 (zbn N a0).bind fun r1=>some (decide (r1≥0))
def zew.k (N:Nat):Kq:=⟨32,(ctv [.val (Ty.sl (Ty.sl Ty.zD)),.clo 33 0] [Ty.bool] [] [] [(Ty.sl (Ty.sl Ty.zD))] (zew N)),go [zbn.k N] {} [] Proofs.Tryz.func32⟩
def zln (N:Nat) (a0:zK) (a1:zH):Option ((List (List zD)) × Int):=
 (zcz N a0 a1).bind fun r1=>cond (r1 !=0) (some ([],r1)) ((zba N a1).bind fun r2=>(zew N r2).bind fun r3=>
  cond r3 (some ([],2)) (some (r2,0)))
def zln.k (N:Nat):Kq:=⟨8,(cvv [(Ty.sl (Ty.sl Ty.zD)),T6] [Ty.zK,Ty.zH] (zln N)),go [zcz.k N,zba.k N,zew.k N] {} [] Proofs.Tryz.func8⟩
def zcc (a0:zA):Option Bool:=
 (cond (a0.Op==0) (some (!a0.Place.Based)) (some false)).bind fun g1=>some g1
def zcc.k:Kq:=⟨56,(cvv [Ty.bool] [Ty.zA] zcc),go [] {} [] Proofs.Tryz.func56⟩
def zdr (N:Nat) (a0:List zD) (a1:zA) (a2:Int):Option Bool:=
 (zbd N a0 (⟨a2,a1.zF,a1.Place.Offset⟩:zD)).bind fun r1=>some r1
def zdr.k (N:Nat):Kq:=⟨57,(cvv [Ty.bool] [(Ty.sl Ty.zD),Ty.zA,T6] (zdr N)),go [zbd.k N] {} [] Proofs.Tryz.func57⟩
def zb0.b0 (N:Nat) (s3:List Int) (s4:Int) (s8:List Int) (s9:Int) (s10:Int):Option (Stp ((List Int) × Int × (List Int) × Int × Int)):=
 cond (decide (s10<s9)) ((idx s8 s10).bind fun x1001=>cond (x1001 !=(-1)) (cond (Nat.ble ((s3.length+([(w6 (s4+1))]:List Int).length)*8) zae)
  (some (.again ((s3++([(w6 (s4+1))]:List Int)),(w6 (s4+1)),s8,s9,(w6 (s10+1))))) none)
  (cond (Nat.ble ((s3.length+([s4]:List Int).length)*8) zae) (some (.again ((s3++([s4]:List Int)),s4,s8,s9,(w6 (s10+1))))) none))
  (some (.leave (s3,s4,s8,s9,s10)))
def zb0.r0 (N:Nat) (x:(List Int) × Int × (List Int) × Int × Int):=zb0.b0 N x.1 x.2.1 x.2.2.1 x.2.2.2.1 x.2.2.2.2
def zb0 (N:Nat) (a0:List Int):Option ((List Int)):=
 (zi (zb0.r0 N) N (([0]:List Int),0,a0,(a0.length:Int),0)).bind fun y1=>some y1.1
def zb0.k (N:Nat):Kq:=⟨47,(cvv [(Ty.sl T6)] [(Ty.sl T6)] (zb0 N)),go [] {lits:=[20]} [(0,.plain {slots:=[(3,.own 5000003 T6),(4,.val T6),(8,.val (Ty.sl T6)),(9,.val T6),(10,.val T6)],boxes:=[]} [(Ty.sl T6),T6,(Ty.sl T6),T6,T6] (zi (zb0.r0 N) N))] Proofs.Tryz.func47 (hL:=⟨⟨_,_,rfl,by kernel_rfl⟩,trivial⟩)⟩
def zbz.b0 (N:Nat) (s1:List Int) (s5:List zT) (s8:List zT) (s9:Int) (s10:Int):Option (Stp ((List Int) × (List zT) × (List zT) × Int × Int)):=
 cond (decide (s10<s9)) ((idx s8 s10).bind fun x1001=>(idx s1 x1001.From).bind fun x1002=>(idx s1 x1001.To).bind fun x1003=>(idx s1 x1001.Handler).bind fun x1004=>
  cond (Nat.ble ((s5.length+([(⟨x1002,x1003,x1001.Exception,x1004⟩:zT)]:List zT).length)*32) zae)
  (some (.again (s1,(s5++([(⟨x1002,x1003,x1001.Exception,x1004⟩:zT)]:List zT)),s8,s9,(w6 (s10+1))))) none) (some (.leave (s1,s5,s8,s9,s10)))
def zbz.r0 (N:Nat) (x:(List Int) × (List zT) × (List zT) × Int × Int):=zbz.b0 N x.1 x.2.1 x.2.2.1 x.2.2.2.1 x.2.2.2.2
def zbz (N:Nat) (a0:List zT) (a1:List Int):Option ((List zT)):=
 (zi (zbz.r0 N) N (a1,[],a0,(a0.length:Int),0)).bind fun y1=>some y1.2.1
def zbz.k (N:Nat):Kq:=⟨50,(cvv [(Ty.sl Ty.zT)] [(Ty.sl Ty.zT),(Ty.sl T6)] (zbz N)),go [] {lits:=[33]} [(0,.plain {slots:=[(1,.val (Ty.sl T6)),(5,.own 5000005 Ty.zT),(8,.val (Ty.sl Ty.zT)),(9,.val T6),(10,.val T6)],boxes:=[]} [(Ty.sl T6),(Ty.sl Ty.zT),(Ty.sl Ty.zT),T6,T6] (zi (zbz.r0 N) N))] Proofs.Tryz.func50 (hL:=⟨⟨_,_,rfl,by kernel_rfl⟩,trivial⟩)⟩
def zfh.b0 (N:Nat) (s0:List zD) (s11:List zD) (s12:Int) (s13:Int) (b3:zA) (b4:zA):Option (Round zA ((List zD) × (List zD) × Int × Int × zA × zA)):=
 cond (decide (s13<s12)) ((idx s11 s13).bind fun x1001=>(cond (x1001.Register !=b3.R) ((zdr N s0 b3 x1001.Register).bind fun r1002=>some r1002)
  (some false)).bind fun g1003=>
  cond g1003 (some (.result (⟨3,b3.R,x1001.Register,0,0,(⟨false,0,0⟩:zN),(⟨false,0,0⟩:zN),(⟨0,0,0⟩:DataType),(⟨0,0,0⟩:DataType),false,false,(⟨0,0⟩:Number),(⟨#[]⟩:ByteArray),(⟨#[]⟩:ByteArray),0,0,0,0⟩:zA)))
  (some (.again (s0,s11,s12,(w6 (s13+1)),b3,b4)))) (some (.leave (s0,s11,s12,s13,b3,b4)))
def zfh.r0 (N:Nat) (x:(List zD) × (List zD) × Int × Int × zA × zA):=zfh.b0 N x.1 x.2.1 x.2.2.1 x.2.2.2.1 x.2.2.2.2.1 x.2.2.2.2.2
def zfh (N:Nat) (a0:List zD) (a1:zA):Option zA:=
 (zcc a1).bind fun r1=>cond (!r1) (some a1)
  ((zp (zfh.r0 N) N (a0,a0,(a0.length:Int),0,a1,(⟨0,0,0,0,0,(⟨false,0,0⟩:zN),(⟨false,0,0⟩:zN),(⟨0,0,0⟩:DataType),(⟨0,0,0⟩:DataType),false,false,(⟨0,0⟩:Number),(⟨#[]⟩:ByteArray),(⟨#[]⟩:ByteArray),0,0,0,0⟩:zA))).bind fun z3=>
  zbq z3 (fun z=>some z) (fun y2=>some y2.2.2.2.2.1))
def zfh.k (N:Nat):Kq:=⟨60,(cvv [Ty.zA] [(Ty.sl Ty.zD),Ty.zA] (zfh N)),go [zcc.k,zdr.k N] {} [(0,.rets {slots:=[(0,.val (Ty.sl Ty.zD)),(3,.ptr 3 0),(4,.ptr 4 0),(11,.val (Ty.sl Ty.zD)),(12,.val T6),(13,.val T6)],boxes:=[(3,Ty.zA,[]),(4,Ty.zA,[])]} [(Ty.sl Ty.zD),(Ty.sl Ty.zD),T6,T6,Ty.zA,Ty.zA] (zp (zfh.r0 N) N))] Proofs.Tryz.func60 (hL:=⟨⟨_,_,rfl,by kernel_rfl⟩,trivial⟩)⟩
def zf7 (a0:zA) (a1:List Int):Option zA:=
 (zd6 a0.Op).bind fun r1=>cond r1 ((idx a1 a0.Target).bind fun x2=>
  some (⟨a0.Op,a0.R,a0.A,a0.B,a0.zM,a0.Place,a0.From,a0.zF,a0.Second,a0.Half,a0.zO,a0.Number,a0.Text,a0.Other,a0.Mask,x2,a0.Pointer,a0.Source⟩:zA))
  (some a0)
def zf7.k:Kq:=⟨59,(cvv [Ty.zA] [Ty.zA,(Ty.sl T6)] zf7),go [zd6.k] {} [] Proofs.Tryz.func59⟩
def x58:Ct U:={params:=[.val (Ty.sl Ty.bool)],results:=[(Ty.sl Ty.bool)],outs:=[],fresh:=[0],fn:=app U [(Ty.sl Ty.bool)] (R:=PT U [(Ty.sl Ty.bool)]) (zc6 1)}
theorem x58.meets:zif (zpo [] [] [] [] [] [] [] []) 58 x58:=
 zn6 zwm (zun (l:=[]) rfl all_nil) (zuf (l:=[]) rfl all_nil) (Lp:=pick []) Proofs.Tryz.func58 (by kernel_rfl) (zuq (l:=[]) rfl all_nil) (fun y=>by kernel_rfl) (e:=4) (t:=Ty.bool) rfl rfl rfl rfl rfl rfl rfl (by kernel_rfl) rfl rfl rfl rfl rfl rfl (fun xs=>by kernel_rfl) fun ds y h=>by
  obtain⟨xs,rfl,hx⟩:=zyr h;refine⟨xs,rfl,fun b hb=> ?_⟩;cases b with
  | true=>
   have:=hb rfl;subst this;exact Eq.trans (by kernel_rfl) hx
  | false=>exact Eq.trans (b:=cond (Nat.ble ((0+xs.length)*1) zae) (some xs) none) (by kernel_rfl) (by rw [Nat.zero_add];exact hx)
def x58.k:Kq:=⟨58,x58,x58.meets⟩
def zcf.b0 (N:Nat) (s7:List (List zD)) (s9:List Int) (s10:Int) (s29:List zA) (s30:Int) (s31:Int) (b3:zH) (b4:zH) (b5:yA):Option (Stp ((List (List zD)) × (List Int) × Int × (List zA) × Int × Int × zH × zH × yA)):=
 cond (decide (s31<s30)) ((idx s29 s31).bind fun x1001=>(cond (decide (s31<(w6 ((b3.zB.length:Int)-1))))
  ((zcc x1001).bind fun r1002=>some r1002) (some false)).bind fun g1003=>(cond g1003 ((idx s7 s31).bind fun x1004=>
  (zdr N x1004 x1001 x1001.R).bind fun r1005=>some r1005) (some false)).bind fun g1006=>
  cond g1006 (cond (Nat.ble ((s9.length+([(-1)]:List Int).length)*8) zae)
  (some (.again (s7,(s9++([(-1)]:List Int)),s10,s29,s30,(w6 (s31+1)),b3,b4,b5))) none)
  (cond (Nat.ble ((s9.length+([s10]:List Int).length)*8) zae)
  (some (.again (s7,(s9++([s10]:List Int)),(w6 (s10+1)),s29,s30,(w6 (s31+1)),b3,b4,b5))) none))
  (some (.leave (s7,s9,s10,s29,s30,s31,b3,b4,b5)))
def zcf.r0 (N:Nat) (x:(List (List zD)) × (List Int) × Int × (List zA) × Int × Int × zH × zH × yA):=zcf.b0 N x.1 x.2.1 x.2.2.1 x.2.2.2.1 x.2.2.2.2.1 x.2.2.2.2.2.1 x.2.2.2.2.2.2.1 x.2.2.2.2.2.2.2.1 x.2.2.2.2.2.2.2.2
def zcf.b2 (N:Nat) (s7:List (List zD)) (s9:List Int) (s13:List Int) (s82:List zA) (s83:Int) (s84:Int) (b4:zH) (b5:yA) (b14:zH):Option (Stp ((List (List zD)) × (List Int) × (List Int) × (List zA) × Int × Int × zH × yA × zH)):=
 cond (decide (s84<s83)) ((idx s82 s84).bind fun x3001=>(idx s9 s84).bind fun x3002=>cond (x3002 !=(-1)) ((idx s7 s84).bind fun x3003=>
  (zfh N x3003 x3001).bind fun r3004=>(zf7 r3004 s13).bind fun r3005=>
  cond (Nat.ble ((b14.zB.length+([r3005]:List zA).length)*224) zae)
  (some (.again (s7,s9,s13,s82,s83,(w6 (s84+1)),b4,b5,(⟨b14.Storage,(b14.zB++([r3005]:List zA)),b14.zQ⟩:zH)))) none)
  (some (.again (s7,s9,s13,s82,s83,(w6 (s84+1)),b4,b5,b14)))) (some (.leave (s7,s9,s13,s82,s83,s84,b4,b5,b14)))
def zcf.r2 (N:Nat) (x:(List (List zD)) × (List Int) × (List Int) × (List zA) × Int × Int × zH × yA × zH):=zcf.b2 N x.1 x.2.1 x.2.2.1 x.2.2.2.1 x.2.2.2.2.1 x.2.2.2.2.2.1 x.2.2.2.2.2.2.1 x.2.2.2.2.2.2.2.1 x.2.2.2.2.2.2.2.2
def zcf (N:Nat) (a0:zK) (a1:zH):Option (zH × yA × Int):=
 (zln N a0 a1).bind fun r1=>cond (r1.2 !=0) (some ((⟨(⟨(⟨#[]⟩:ByteArray),[]⟩:Storage),[],[]⟩:zH),(⟨[],[]⟩:yA),r1.2))
  ((zi (zcf.r0 N) N (r1.1,[],0,a1.zB,(a1.zB.length:Int),0,a1,(⟨(⟨(⟨#[]⟩:ByteArray),[]⟩:Storage),[],[]⟩:zH),(⟨[],[]⟩:yA))).bind fun y2=>
  (zb0 N y2.2.1).bind fun r3=>(zc6 1 y2.2.2.2.2.2.2.1.Storage.Tags).bind fun r4=>(zbz N y2.2.2.2.2.2.2.1.zQ r3).bind fun r5=>
  (zi (zcf.r2 N) N (y2.1,y2.2.1,r3,y2.2.2.2.2.2.2.1.zB,(y2.2.2.2.2.2.2.1.zB.length:Int),0,y2.2.2.2.2.2.2.2.1,y2.2.2.2.2.2.2.2.2,(⟨(⟨y2.2.2.2.2.2.2.1.Storage.Bytes,r4⟩:Storage),[],r5⟩:zH))).bind fun y6=>
  some (y6.2.2.2.2.2.2.2.2,(⟨y6.1,y6.2.1⟩:yA),0))
def zcf.k (N:Nat):Kq:=⟨24,(cvv [Ty.zH,Ty.yA,T6] [Ty.zK,Ty.zH] (zcf N)),go [zln.k N,zb0.k N,zbz.k N,zcc.k,zdr.k N,x58.k,zf7.k,zfh.k N] {lits:=[57,61,101,103,104]} [(0,.plain {slots:=[(3,.ptr 3 0),(4,.ptr 4 0),(5,.ptr 5 0),(7,.val (Ty.sl (Ty.sl Ty.zD))),(9,.own 5000009 T6),(10,.val T6),(29,.val (Ty.sl Ty.zA)),(30,.val T6),(31,.val T6)],boxes:=[(3,Ty.zH,[]),(4,Ty.zH,[1,2,3]),(5,Ty.yA,[0,1])]} [(Ty.sl (Ty.sl Ty.zD)),(Ty.sl T6),T6,(Ty.sl Ty.zA),T6,T6,Ty.zH,Ty.zH,Ty.yA] (zi (zcf.r0 N) N)),(2,.plain {slots:=[(4,.ptr 4 0),(5,.ptr 5 0),(7,.val (Ty.sl (Ty.sl Ty.zD))),(9,.val (Ty.sl T6)),(13,.val (Ty.sl T6)),(14,.ptr 14 0),(82,.val (Ty.sl Ty.zA)),(83,.val T6),(84,.val T6)],boxes:=[(4,Ty.zH,[1,2,3]),(5,Ty.yA,[0,1]),(14,Ty.zH,[1,2])]} [(Ty.sl (Ty.sl Ty.zD)),(Ty.sl T6),(Ty.sl T6),(Ty.sl Ty.zA),T6,T6,Ty.zH,Ty.yA,Ty.zH] (zi (zcf.r2 N) N))] Proofs.Tryz.func24 (hL:=⟨⟨_,_,rfl,by kernel_rfl⟩,⟨_,_,rfl,by kernel_rfl⟩,trivial⟩)⟩
def zqs:Option zP:=
 some (⟨([(⟨(⟨#[65]⟩:ByteArray),0,(⟨1,3,0⟩:DataType),(⟨7,(⟨#[]⟩:ByteArray)⟩:Value),(⟨#[]⟩:ByteArray),0,0⟩:zL),(⟨(⟨#[79,78,69]⟩:ByteArray),4,(⟨1,1,0⟩:DataType),(⟨1,(⟨#[]⟩:ByteArray)⟩:Value),(⟨#[]⟩:ByteArray),0,0⟩:zL)]:List zL),([(⟨2,([0,0,1]:List Int)⟩:zS),(⟨17,([0]:List Int)⟩:zS),(⟨18,[]⟩:zS)]:List zS),[]⟩:zP)
def zqs.k:Kq:=⟨27,(cvv [Ty.zP] [] zqs),go [] {lits:=[8,10]} [] Proofs.Tryz.func27⟩
def zcw (a0:Bool) (a1:Int):Option Int:=
 cond a0 (some a1) (some 0)
def zcw.k:Kq:=⟨179,(cvv [T6] [Ty.bool,T6] zcw),go [] {} [] Proofs.Tryz.func179⟩
def zd8.b0 (N:Nat) (s5:List Int) (s6:Int) (s7:Int):Option (Round Int ((List Int) × Int × Int)):=
 cond (decide (s7<s6)) ((idx s5 s7).bind fun x1001=>cond (x1001 !=0) (some (.result x1001)) (some (.again (s5,s6,(w6 (s7+1)))))) (some (.leave (s5,s6,s7)))
def zd8.r0 (N:Nat) (x:(List Int) × Int × Int):=zd8.b0 N x.1 x.2.1 x.2.2
def zd8 (N:Nat) (a0:List Int):Option Int:=
 (zp (zd8.r0 N) N (a0,(a0.length:Int),0)).bind fun z2=>zbq z2 (fun z=>some z) (fun y1=>some 0)
def zd8.k (N:Nat):Kq:=⟨178,(cvv [T6] [(Ty.sl T6)] (zd8 N)),go [] {} [(0,.rets {slots:=[(5,.val (Ty.sl T6)),(6,.val T6),(7,.val T6)],boxes:=[]} [(Ty.sl T6),T6,T6] (zp (zd8.r0 N) N))] Proofs.Tryz.func178 (hL:=⟨⟨_,_,rfl,by kernel_rfl⟩,trivial⟩)⟩
def zgj.b0 (N:Nat) (s15:List Int) (s16:Int) (s17:Int):Option (Round Bool ((List Int) × Int × Int)):=
 cond (decide (s17<s16)) (if 0≤s17 then(if s17<(s15.length:Int)then((s15[s17.toNat]?).bind fun x1001=>(cond (decide (65≤x1001)) (some (decide (x1001≤90)))
  (some false)).bind fun g1002=>(cond g1002 (some true) (some (x1001==35))).bind fun g1003=>(cond g1003 (some true) (some (x1001==36))).bind fun g1004=>
  (cond g1004 (some true) (some (x1001==64))).bind fun g1005=>(cond (decide (48≤x1001)) (some (decide (x1001≤57))) (some false)).bind fun g1006=>(cond g1006 (some true)
  (some (x1001==95))).bind fun g1007=>(cond g1007 (some true) (some (x1001==46))).bind fun g1008=>(cond (!g1005) ((cond (s17==0) (some true)
  (some (!g1008))).bind fun g1009=>some g1009) (some false)).bind fun g1010=>cond g1010 (some (.result false))
  (some (.again (s15,s16,(w6 (s17+1))))))else none)else none) (some (.leave (s15,s16,s17)))
def zgj.r0 (N:Nat) (x:(List Int) × Int × Int):=zgj.b0 N x.1 x.2.1 x.2.2
def zgj (N:Nat) (a0:ByteArray):Option Bool:=
 (cond (a0.toList==(⟨#[]⟩:ByteArray).toList) (some true) (some (decide ((a0.size:Int)>10)))).bind fun g1=>cond g1 (some false)
  ((zp (zgj.r0 N) N ((zjc a0),((zjc a0).length:Int),0)).bind fun z3=>zbq z3 (fun z=>some z) (fun y2=>some true))
def zgj.k (N:Nat):Kq:=⟨255,(cvv [Ty.bool] [Ty.str] (zgj N)),go [] {} [(0,.rets {slots:=[(15,.own 5000015 (Ty.int .u8)),(16,.val T6),(17,.val T6)],boxes:=[]} [(Ty.sl (Ty.int .u8)),T6,T6] (zp (zgj.r0 N) N))] Proofs.Tryz.func255 (hL:=⟨⟨_,_,rfl,by kernel_rfl⟩,trivial⟩)⟩
def zmf (a0:zL) (a1:ByteArray):Option Bool:=
 some (a0.Name.toList==a1.toList)
def zmf.k:Kq:=⟨263,(ctv [.val Ty.zL,.ptr Ty.str false []] [Ty.bool] [] [] [Ty.zL,Ty.str] zmf),go [] {ro:=[1000000],pk:=[1000000]} [] Proofs.Tryz.func263⟩
def za3.b0 (N:Nat) (s0:List zL) (s7:Int) (s8:Int) (b1000000:ByteArray):Option (Round Int ((List zL) × Int × Int × ByteArray)):=
 cond (decide (s8<s7)) ((idx s0 s8).bind fun x1001=>(zmf x1001 b1000000).bind fun r1002=>cond r1002 (some (.result s8))
  (some (.again (s0,s7,(w6 (s8+1)),b1000000)))) (some (.leave (s0,s7,s8,b1000000)))
def za3.r0 (N:Nat) (x:(List zL) × Int × Int × ByteArray):=za3.b0 N x.1 x.2.1 x.2.2.1 x.2.2.2
def za3 (N:Nat) (a0:List zL) (a1:ByteArray):Option Int:=
 (zp (za3.r0 N) N (a0,(a0.length:Int),0,a1)).bind fun z2=>zbq z2 (fun z=>some z) (fun y1=>some (-1))
def za3.k (N:Nat):Kq:=⟨262,(ctv [.val (Ty.sl Ty.zL),.clo 263 1,.ptr Ty.str false []] [T6] [] [] [(Ty.sl Ty.zL),Ty.str] (za3 N)),go [zmf.k] {ro:=[1000000],pk:=[1000000]} [(0,.rets {slots:=[(0,.val (Ty.sl Ty.zL)),(1,.fn 263 [1000000]),(7,.val T6),(8,.val T6)],boxes:=[(1000000,Ty.str,[])]} [(Ty.sl Ty.zL),T6,T6,Ty.str] (zp (za3.r0 N) N))] Proofs.Tryz.func262 (hL:=⟨⟨_,_,rfl,by kernel_rfl⟩,trivial⟩)⟩
def zia (N:Nat) (a0:List zL) (a1:ByteArray):Option Int:=
 (za3 N a0 a1).bind fun r1=>some r1
def zia.k (N:Nat):Kq:=⟨185,(cvv [T6] [(Ty.sl Ty.zL),Ty.str] (zia N)),go [za3.k N] {} [] Proofs.Tryz.func185⟩
def zfi (a0:Int) (a1:Int) (a2:Int):Option Bool:=
 (cond (decide (a1≤a0)) (some (decide (a0≤a2))) (some false)).bind fun g1=>some g1
def zfi.k:Kq:=⟨256,(cvv [Ty.bool] [T6,T6,T6] zfi),go [] {} [] Proofs.Tryz.func256⟩
def zhp (a0:zL):Option Bool:=
 (cond (a0.Kind==0) (some true) (some (a0.Kind==1))).bind fun g1=>(cond g1 (some true) (some (a0.Kind==2))).bind fun g2=>(cond g2 (some true)
  (some (a0.Kind==4))).bind fun g3=>some g3
def zhp.k:Kq:=⟨258,(cvv [Ty.bool] [Ty.zL] zhp),go [] {} [] Proofs.Tryz.func258⟩
def zpj (a0:zL):Option zL:=
 (zhp a0).bind fun r1=>cond r1 ((cond (a0.Kind==0) (some (a0.Kind==0)) (some (a0.Kind==4))).bind fun q2=>
  cond q2 (some (⟨a0.Name,a0.Kind,a0.zF,a0.Value,(⟨#[]⟩:ByteArray),0,0⟩:zL)) ((cond (a0.Kind==1) (some (a0.Kind==1)) (some (a0.Kind==2))).bind fun q3=>
  cond q3 (some (⟨a0.Name,a0.Kind,a0.zF,(⟨0,(⟨#[]⟩:ByteArray)⟩:Value),a0.Base,a0.Offset,0⟩:zL)) (cond (a0.Kind==5)
  (some (⟨a0.Name,a0.Kind,a0.zF,(⟨0,(⟨#[]⟩:ByteArray)⟩:Value),(⟨#[]⟩:ByteArray),0,a0.Target⟩:zL))
  (some (⟨a0.Name,a0.Kind,a0.zF,(⟨0,(⟨#[]⟩:ByteArray)⟩:Value),(⟨#[]⟩:ByteArray),0,0⟩:zL))))) ((cond (a0.Kind==0) (some (a0.Kind==0))
  (some (a0.Kind==4))).bind fun q4=>cond q4 (some (⟨a0.Name,a0.Kind,(⟨0,0,0⟩:DataType),a0.Value,(⟨#[]⟩:ByteArray),0,0⟩:zL)) ((cond (a0.Kind==1)
  (some (a0.Kind==1)) (some (a0.Kind==2))).bind fun q5=>
  cond q5 (some (⟨a0.Name,a0.Kind,(⟨0,0,0⟩:DataType),(⟨0,(⟨#[]⟩:ByteArray)⟩:Value),a0.Base,a0.Offset,0⟩:zL)) (cond (a0.Kind==5)
  (some (⟨a0.Name,a0.Kind,(⟨0,0,0⟩:DataType),(⟨0,(⟨#[]⟩:ByteArray)⟩:Value),(⟨#[]⟩:ByteArray),0,a0.Target⟩:zL))
  (some (⟨a0.Name,a0.Kind,(⟨0,0,0⟩:DataType),(⟨0,(⟨#[]⟩:ByteArray)⟩:Value),(⟨#[]⟩:ByteArray),0,0⟩:zL)))))
def zpj.k:Kq:=⟨257,(cvv [Ty.zL] [Ty.zL] zpj),go [zhp.k] {bj:=[16,22]} [] Proofs.Tryz.func257⟩
def zdi.b0 (N:Nat) (s3:Int) (s5:Int) (s6:Int):Option (Stp (Int × Int × Int)):=
 cond (decide (s6<s5)) (some (.again ((w6 (s3*10)),s5,(w6 (s6+1))))) (some (.leave (s3,s5,s6)))
def zdi.r0 (N:Nat) (x:Int × Int × Int):=zdi.b0 N x.1 x.2.1 x.2.2
def zdi (N:Nat) (a0:Int):Option Int:=
 (zi (zdi.r0 N) N (1,(if 18<a0 then 18 else a0),0)).bind fun y1=>some y1.1
def zdi.k (N:Nat):Kq:=⟨269,(cvv [T6] [T6] (zdi N)),go [] {} [(0,.plain {slots:=[(3,.val T6),(5,.val T6),(6,.val T6)],boxes:=[]} [T6,T6,T6] (zi (zdi.r0 N) N))] Proofs.Tryz.func269 (hL:=⟨⟨_,_,rfl,by kernel_rfl⟩,trivial⟩)⟩
def zc9 (N:Nat) (a0:DataType) (a1:Value):Option Int:=
 (zax N a0).bind fun r1=>(za5 (a0.Kind==4) 17).bind fun r2=>(zab N ([r1,r2]:List Int)).bind fun r3=>cond (r3 !=0) (some r3)
  (cond (a0.Kind==0) ((za5 (a1.N !=0) 5).bind fun r4=>(za5 ((a1.S.size:Int) !=a0.Length) 18).bind fun r5=>
  (zab N ([r4,r5]:List Int)).bind fun r6=>some r6) ((zdi N a0.Length).bind fun r7=>
  (za5 (!(a1.S.toList==(⟨#[]⟩:ByteArray).toList)) 5).bind fun r8=>(ze2 a1.N (w6 (0-(w6 (r7-1))))
  (w6 (r7-1))).bind fun r9=>(za5 (!r9) 19).bind fun r10=>(zab N ([r8,r10]:List Int)).bind fun r11=>some r11))
def zc9.k (N:Nat):Kq:=⟨188,(cvv [T6] [Ty.DataType,Ty.Value] (zc9 N)),go [zax.k N,ze2.k,zab.k N,za5.k,zdi.k N] {lits:=[8,12,13,24,31,32,41,49,50]} [] Proofs.Tryz.func188⟩
def zkk (N:Nat) (a0:zL):Option Int:=
 (zfr N a0.zF).bind fun r1=>some r1.1
def zkk.k (N:Nat):Kq:=⟨184,(cvv [T6] [Ty.zL] (zkk N)),go [zfr.k N] {} [] Proofs.Tryz.func184⟩
def zk5 (N:Nat) (a0:zL) (a1:List zL):Option Int:=
 (zia N a1 a0.Base).bind fun r1=>cond (decide (r1<0)) (some 11) ((idx a1 r1).bind fun x2=>cond (a0.Kind==2) ((zcw (x2.Kind !=3) 17).bind fun r3=>
  (zfi a0.Offset 0 256).bind fun r4=>(zcw (!r4) 3).bind fun r5=>(zd8 N ([r3,r5]:List Int)).bind fun r6=>some r6) (cond (x2.Kind !=0) (some 17)
  ((zkk N x2).bind fun r7=>(zkk N a0).bind fun r8=>(zfi a0.Offset 0 (w6 (r7-r8))).bind fun r9=>(zcw (!r9) 3).bind fun r10=>
  some r10)))
def zk5.k (N:Nat):Kq:=⟨259,(cvv [T6] [Ty.zL,(Ty.sl Ty.zL)] (zk5 N)),go [zd8.k N,zcw.k,zkk.k N,zia.k N,zfi.k] {lits:=[23,28,29]} [] Proofs.Tryz.func259⟩
def zk3 (N:Nat) (a0:zP) (a1:Int):Option Int:=
 (idx a0.zW a1).bind fun x1=>if 0≤a1∧a1≤(a0.zW.length:Int)then(if 0≤(0:Int)∧(0:Int)≤a1 then((zgj N x1.Name).bind fun r2=>
  (zcw (!r2) 7).bind fun r3=>(zia N ((a0.zW.take a1.toNat).drop (0:Int).toNat) x1.Name).bind fun r4=>
  (zcw (decide (r4≥0)) 13).bind fun r5=>(zfi x1.Kind 0 5).bind fun r6=>(zcw (!r6) 4).bind fun r7=>(zpj x1).bind fun r8=>
  (zcw (!(zdq [(r8.Name==x1.Name),(r8.Kind==x1.Kind),(r8.zF.Kind==x1.zF.Kind),(r8.zF.Length==x1.zF.Length),(r8.zF.Scale==x1.zF.Scale),(r8.Value.N==x1.Value.N),(r8.Value.S==x1.Value.S),(r8.Base==x1.Base),(r8.Offset==x1.Offset),(r8.Target==x1.Target)])) 5).bind fun r9=>
  (zd8 N ([r3,r5,r7,r9]:List Int)).bind fun r10=>cond (r10 !=0) (some r10) ((zhp x1).bind fun r11=>
  cond r11 ((zax N x1.zF).bind fun r12=>(zcw (x1.zF.Kind==4) 17).bind fun r13=>(zd8 N ([r12,r13]:List Int)).bind fun r14=>
  cond (r14 !=0) (some r14) ((cond (x1.Kind==0) (some (x1.Kind==0)) (some (x1.Kind==4))).bind fun q15=>cond q15 ((zc9 N x1.zF x1.Value).bind fun r16=>
  some r16) ((cond (x1.Kind==1) (some (x1.Kind==1)) (some (x1.Kind==2))).bind fun q17=>
  cond q17 ((zk5 N x1 ((a0.zW.take a1.toNat).drop (0:Int).toNat)).bind fun r18=>some r18) (cond (x1.Kind==5)
  ((zfi x1.Target 0 (w6 ((a0.zB.length:Int)-1))).bind fun r19=>(zcw (!r19) 3).bind fun r20=>some r20) (some 0)))))
  ((cond (x1.Kind==0) (some (x1.Kind==0)) (some (x1.Kind==4))).bind fun q21=>cond q21 ((zc9 N x1.zF x1.Value).bind fun r22=>some r22)
  ((cond (x1.Kind==1) (some (x1.Kind==1)) (some (x1.Kind==2))).bind fun q23=>
  cond q23 ((zk5 N x1 ((a0.zW.take a1.toNat).drop (0:Int).toNat)).bind fun r24=>some r24) (cond (x1.Kind==5)
  ((zfi x1.Target 0 (w6 ((a0.zB.length:Int)-1))).bind fun r25=>(zcw (!r25) 3).bind fun r26=>some r26)
  (some 0))))))else none)else none
def zk3.k (N:Nat):Kq:=⟨180,(cvv [T6] [Ty.zP,T6] (zk3 N)),go [zax.k N,zd8.k N,zcw.k,zia.k N,zc9.k N,zgj.k N,zfi.k,zpj.k,zhp.k,zk5.k N] {lits:=[22,28,33,38,39,48,53,54],bj:=[61,69]} [] Proofs.Tryz.func180⟩
def zd9 (a0:Int) (a1:Int):Option (Int × Int):=
 some ((IntKind.wrap .u64 ((IntKind.wrap .u64 ((IntKind.wrap .u64 ((a0.fdiv (2^(min (32:Int).toNat 64)))*(a1.fdiv (2^(min (32:Int).toNat 64)))))+((IntKind.wrap .u64 ((IntKind.wrap .u64 ((a0.fdiv (2^(min (32:Int).toNat 64)))*(zg .u64 a1 4294967295)))+((IntKind.wrap .u64 ((zg .u64 a0 4294967295)*(zg .u64 a1 4294967295))).fdiv (2^(min (32:Int).toNat 64))))).fdiv (2^(min (32:Int).toNat 64)))))+((IntKind.wrap .u64 ((zg .u64 (IntKind.wrap .u64 ((IntKind.wrap .u64 ((a0.fdiv (2^(min (32:Int).toNat 64)))*(zg .u64 a1 4294967295)))+((IntKind.wrap .u64 ((zg .u64 a0 4294967295)*(zg .u64 a1 4294967295))).fdiv (2^(min (32:Int).toNat 64))))) 4294967295)+(IntKind.wrap .u64 ((zg .u64 a0 4294967295)*(a1.fdiv (2^(min (32:Int).toNat 64))))))).fdiv (2^(min (32:Int).toNat 64))))),(IntKind.wrap .u64 (a0*a1)))
def zd9.k:Kq:=⟨313,(cvv [(Ty.int .u64),(Ty.int .u64)] [(Ty.int .u64),(Ty.int .u64)] zd9),go [] {} [] Proofs.Tryz.func313⟩
def zof (a0:Int) (a1:Int):Option (Int × Int):=
 (zd9 a0 a1).bind fun r1=>some (r1.1,r1.2)
def zof.k:Kq:=⟨261,(cvv [(Ty.int .u64),(Ty.int .u64)] [(Ty.int .u64),(Ty.int .u64)] zof),go [zd9.k] {} [] Proofs.Tryz.func261⟩
def ze1.b0 (N:Nat) (s7:List Int) (s8:Int):Option (Stp ((List Int) × Int)):=
 cond (decide (s8<(s7.length:Int)))
  (if 0≤s8∧s8≤(s7.length:Int)then(if 0≤s8∧s8≤(s7.length:Int)then(if 0≤(0:Int)∧(0:Int)≤s8 then(some (.again ((s7.take s8.toNat++((s7.drop ((0:Int).toNat)).take (s8.toNat-(0:Int).toNat)).take (min ((s7.drop ((0:Int).toNat)).take (s8.toNat-(0:Int).toNat)).length (s7.length-s8.toNat))++s7.drop (s8.toNat+(min ((s7.drop ((0:Int).toNat)).take (s8.toNat-(0:Int).toNat)).length (s7.length-s8.toNat)))),(w6 (s8+(((min ((s7.drop ((0:Int).toNat)).take (s8.toNat-(0:Int).toNat)).length (s7.length-s8.toNat)):Nat):Int))))))else none)else none)else none)
  (some (.leave (s7,s8)))
def ze1.r0 (N:Nat) (x:(List Int) × Int):=ze1.b0 N x.1 x.2
def ze1 (N:Nat) (a0:List Int) (a1:Int):Option ((List Int)):=
 cond (decide (a1<0)) (none) ((zof (IntKind.wrap .u64 (a0.length:Int)) (IntKind.wrap .u64 a1)).bind fun r1=>(cond (decide (r1.1>0)) (some true)
  (some (decide (r1.2>9223372036854775807)))).bind fun g2=>cond g2 (none)
  (if 0≤(w6 r1.2)then(if(w6 r1.2)≤(w6 r1.2)then(cond (Nat.ble ((w6 r1.2).toNat*8) zae)
  ((zi (ze1.r0 N) N ((a0.take (min a0.length (List.replicate (w6 r1.2).toNat (0:Int)).length)++(List.replicate (w6 r1.2).toNat (0:Int)).drop (min a0.length (List.replicate (w6 r1.2).toNat (0:Int)).length)),(((min a0.length (List.replicate (w6 r1.2).toNat (0:Int)).length):Nat):Int))).bind fun y3=>
  some y3.1) none)else none)else none))
def ze1.k (N:Nat):Kq:=⟨183,(ctv [.val (Ty.sl T6),.val T6] [(Ty.sl T6)] [] [0] [(Ty.sl T6),T6] (ze1 N)),go [zof.k] {} [(0,.plain {slots:=[(7,.own 5000007 T6),(8,.val T6)],boxes:=[]} [(Ty.sl T6),T6] (zi (ze1.r0 N) N))] Proofs.Tryz.func183 (hL:=⟨⟨_,_,rfl,by kernel_rfl⟩,trivial⟩)⟩
def zbe.b0 (N:Nat) (s0:List zL) (s4:List Int) (s5:Int) (s16:List zL) (s17:Int) (s18:Int):Option (Stp ((List zL) × (List Int) × Int × (List zL) × Int × Int)):=
 cond (decide (s18<s17)) ((idx s16 s18).bind fun x1001=>cond (x1001.Kind==3) (if 0≤s18 then(if s18<(s4.length:Int)then((s4[s18.toNat]?).bind fun x1002=>
  some (.again (s0,(s4.set s18.toNat s5),(w6 (s5+16)),s16,s17,(w6 (s18+1)))))else none)else none)
  (some (.again (s0,s4,s5,s16,s17,(w6 (s18+1)))))) (some (.leave (s0,s4,s5,s16,s17,s18)))
def zbe.r0 (N:Nat) (x:(List zL) × (List Int) × Int × (List zL) × Int × Int):=zbe.b0 N x.1 x.2.1 x.2.2.1 x.2.2.2.1 x.2.2.2.2.1 x.2.2.2.2.2
def zbe.b2 (N:Nat) (s0:List zL) (s4:List Int) (s5:Int) (s33:List zL) (s34:Int) (s35:Int):Option (Stp ((List zL) × (List Int) × Int × (List zL) × Int × Int)):=
 cond (decide (s35<s34)) ((idx s33 s35).bind fun x3001=>cond (x3001.Kind==0) ((zkk N x3001).bind fun r3002=>
  if 0≤s35 then(if s35<(s4.length:Int)then((s4[s35.toNat]?).bind fun x3003=>
  some (.again (s0,(s4.set s35.toNat s5),(w6 (s5+r3002)),s33,s34,(w6 (s35+1)))))else none)else none)
  (some (.again (s0,s4,s5,s33,s34,(w6 (s35+1)))))) (some (.leave (s0,s4,s5,s33,s34,s35)))
def zbe.r2 (N:Nat) (x:(List zL) × (List Int) × Int × (List zL) × Int × Int):=zbe.b2 N x.1 x.2.1 x.2.2.1 x.2.2.2.1 x.2.2.2.2.1 x.2.2.2.2.2
def zbe.b4 (N:Nat) (s0:List zL) (s4:List Int) (s5:Int) (s52:List zL) (s53:Int) (s54:Int):Option (Stp ((List zL) × (List Int) × Int × (List zL) × Int × Int)):=
 cond (decide (s54<s53)) ((idx s52 s54).bind fun x5001=>cond (x5001.Kind==1) ((zia N s0 x5001.Base).bind fun r5002=>
  if 0≤r5002 then(if r5002<(s4.length:Int)then((s4[r5002.toNat]?).bind fun x5003=>if 0≤s54 then(if s54<(s4.length:Int)then((s4[s54.toNat]?).bind fun x5004=>
  some (.again (s0,(s4.set s54.toNat (w6 (x5003+x5001.Offset))),s5,s52,s53,(w6 (s54+1)))))else none)else none)else none)else none)
  (some (.again (s0,s4,s5,s52,s53,(w6 (s54+1)))))) (some (.leave (s0,s4,s5,s52,s53,s54)))
def zbe.r4 (N:Nat) (x:(List zL) × (List Int) × Int × (List zL) × Int × Int):=zbe.b4 N x.1 x.2.1 x.2.2.1 x.2.2.2.1 x.2.2.2.2.1 x.2.2.2.2.2
def zbe (N:Nat) (a0:List zL):Option ((List Int) × Int):=
 (ze1 N ([(-1)]:List Int) (a0.length:Int)).bind fun r1=>(zi (zbe.r0 N) N (a0,r1,0,a0,(a0.length:Int),0)).bind fun y2=>
  (zi (zbe.r2 N) N (y2.1,y2.2.1,y2.2.2.1,y2.1,(y2.1.length:Int),0)).bind fun y3=>
  (zi (zbe.r4 N) N (y3.1,y3.2.1,y3.2.2.1,y3.1,(y3.1.length:Int),0)).bind fun y4=>
  some (y4.2.1,(w6 ((w6 ((w6 (y4.2.2.1+16))-1)).tdiv 16)))
def zbe.k (N:Nat):Kq:=⟨109,(cvv [(Ty.sl T6),T6] [(Ty.sl Ty.zL)] (zbe N)),go [ze1.k N,zkk.k N,zia.k N] {lits:=[12,14]} [(0,.plain {slots:=[(0,.val (Ty.sl Ty.zL)),(4,.own 5000004 T6),(5,.val T6),(16,.val (Ty.sl Ty.zL)),(17,.val T6),(18,.val T6)],boxes:=[]} [(Ty.sl Ty.zL),(Ty.sl T6),T6,(Ty.sl Ty.zL),T6,T6] (zi (zbe.r0 N) N)),(2,.plain {slots:=[(0,.val (Ty.sl Ty.zL)),(4,.own 5000004 T6),(5,.val T6),(33,.val (Ty.sl Ty.zL)),(34,.val T6),(35,.val T6)],boxes:=[]} [(Ty.sl Ty.zL),(Ty.sl T6),T6,(Ty.sl Ty.zL),T6,T6] (zi (zbe.r2 N) N)),(4,.plain {slots:=[(0,.val (Ty.sl Ty.zL)),(4,.own 5000004 T6),(5,.val T6),(52,.val (Ty.sl Ty.zL)),(53,.val T6),(54,.val T6)],boxes:=[]} [(Ty.sl Ty.zL),(Ty.sl T6),T6,(Ty.sl Ty.zL),T6,T6] (zi (zbe.r4 N) N))] Proofs.Tryz.func109 (hL:=⟨⟨_,_,rfl,by kernel_rfl⟩,⟨_,_,rfl,by kernel_rfl⟩,⟨_,_,rfl,by kernel_rfl⟩,trivial⟩)⟩
def zh6 (a0:zL):Option Bool:=
 some (a0.zF.Kind !=0)
def zh6.k:Kq:=⟨311,(cvv [Ty.bool] [Ty.zL] zh6),go [] {} [] Proofs.Tryz.func311⟩
def zpk (a0:zL) (a1:zL) (a2:Int):Option Bool:=
 cond (a2==5) (some (a0.Kind==3)) (cond (a2==6) (some (a0.Kind==5)) ((cond (a2==0) (some true) (some (a2==2))).bind fun g1=>(cond (a2==2) (some true)
  (some (a2==3))).bind fun g2=>(zhp a0).bind fun r3=>(cond r3 ((cond g1 (some (a0.Kind==4)) (some false)).bind fun g4=>some (!g4)) (some false)).bind fun g5=>
  (cond g5 ((cond g2 ((zh6 a0).bind fun r6=>some (!r6)) (some false)).bind fun g7=>some (!g7)) (some false)).bind fun g8=>(cond g8 ((cond (a2==4)
  ((zh6 a0).bind fun r9=>(zh6 a1).bind fun r10=>some (!(r9==r10))) (some false)).bind fun g11=>some (!g11)) (some false)).bind fun g12=>
  some g12))
def zpk.k:Kq:=⟨260,(cvv [Ty.bool] [Ty.zL,Ty.zL,T6] zpk),go [zhp.k,zh6.k] {} [] Proofs.Tryz.func260⟩
def zdl.b0 (N:Nat) (s22:List Int) (s23:Int) (s24:Int) (b2:zP) (b3:zS) (b5:zL):Option (Round Int ((List Int) × Int × Int × zP × zS × zL)):=
 cond (decide (s24<s23)) ((idx s22 s24).bind fun x1001=>(zfi x1001 0 (w6 ((b2.zW.length:Int)-1))).bind fun r1002=>cond (!r1002)
  (some (.result 3)) ((idx b2.zW x1001).bind fun x1003=>(idx zaa6 b3.Op).bind fun x1004=>(idx x1004 s24).bind fun x1005=>(zpk x1003 b5 x1005).bind fun r1006=>
  cond (!r1006) (some (.result 17)) ((idx b2.zW x1001).bind fun x1007=>some (.again (s22,s23,(w6 (s24+1)),b2,b3,x1007)))))
  (some (.leave (s22,s23,s24,b2,b3,b5)))
def zdl.r0 (N:Nat) (x:(List Int) × Int × Int × zP × zS × zL):=zdl.b0 N x.1 x.2.1 x.2.2.1 x.2.2.2.1 x.2.2.2.2.1 x.2.2.2.2.2
def zdl (N:Nat) (a0:zP) (a1:zS):Option Int:=
 (zfi a1.Op 0 18).bind fun r1=>cond (!r1) (some 4) ((idx zaa6 a1.Op).bind fun x2=>cond ((a1.Args.length:Int) !=(x2.length:Int)) (some 37)
  ((zp (zdl.r0 N) N (a1.Args,(a1.Args.length:Int),0,a0,a1,(⟨(⟨#[]⟩:ByteArray),0,(⟨0,0,0⟩:DataType),(⟨0,(⟨#[]⟩:ByteArray)⟩:Value),(⟨#[]⟩:ByteArray),0,0⟩:zL))).bind fun z4=>
  zbq z4 (fun z=>some z) (fun y3=>some 0)))
def zdl.k (N:Nat):Kq:=⟨181,(cvv [T6] [Ty.zP,Ty.zS] (zdl N)),go [zfi.k,zpk.k] {} [(0,.rets {slots:=[(2,.ptr 2 0),(3,.ptr 3 0),(5,.ptr 5 0),(22,.val (Ty.sl T6)),(23,.val T6),(24,.val T6)],boxes:=[(2,Ty.zP,[]),(3,Ty.zS,[]),(5,Ty.zL,[])]} [(Ty.sl T6),T6,T6,Ty.zP,Ty.zS,Ty.zL] (zp (zdl.r0 N) N))] Proofs.Tryz.func181 (hL:=⟨⟨_,_,rfl,by kernel_rfl⟩,trivial⟩)⟩
def zk4 (a0:zP) (a1:zX):Option Int:=
 (cond (decide (a1.From≥0)) (some (decide (a1.From<a1.To))) (some false)).bind fun g1=>(cond g1 (some (decide (a1.To≤(a0.zB.length:Int))))
  (some false)).bind fun g2=>(cond g2 ((zfi a1.Exception 0 999).bind fun r3=>some r3) (some false)).bind fun g4=>
  (cond g4 ((zfi a1.Handler 0 (w6 ((a0.zB.length:Int)-1))).bind fun r5=>some r5) (some false)).bind fun g6=>
  (zcw (!g6) 3).bind fun r7=>some r7
def zk4.k:Kq:=⟨182,(cvv [T6] [Ty.zP,Ty.zX] zk4),go [zcw.k,zfi.k] {} [] Proofs.Tryz.func182⟩
def zak.b0 (N:Nat) (s47:Int) (s48:Int) (b1:zP) (b2:zZ):Option (Round (zZ × Int) (Int × Int × zP × zZ)):=
 cond (decide (s48<s47)) ((zk3 N b1 s48).bind fun r1001=>cond (r1001 !=0) (some (.result ((⟨1,s48⟩:zZ),r1001)))
  (some (.again (s47,(w6 (s48+1)),b1,b2)))) (some (.leave (s47,s48,b1,b2)))
def zak.r0 (N:Nat) (x:Int × Int × zP × zZ):=zak.b0 N x.1 x.2.1 x.2.2.1 x.2.2.2
def zak.b2 (N:Nat) (s70:List zS) (s71:Int) (s72:Int) (b1:zP) (b2:zZ):Option (Round (zZ × Int) ((List zS) × Int × Int × zP × zZ)):=
 cond (decide (s72<s71)) ((idx s70 s72).bind fun x3001=>(zdl N b1 x3001).bind fun r3002=>cond (r3002 !=0) (some (.result ((⟨2,s72⟩:zZ),r3002)))
  (some (.again (s70,s71,(w6 (s72+1)),b1,b2)))) (some (.leave (s70,s71,s72,b1,b2)))
end
end Go.Proofs.YtbmfjmakahmclaaGreatDoor.M
