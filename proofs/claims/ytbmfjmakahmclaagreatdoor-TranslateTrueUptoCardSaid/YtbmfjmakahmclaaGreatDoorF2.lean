/- What the program's functions compute, each tied to its code: part 2. -/
import Derived.Test.YtbmfjmakahmclaaGreatDoorF1
namespace Go.Proofs.YtbmfjmakahmclaaGreatDoor.M
open Go Go.Amx
set_option linter.unusedVariables false
set_option maxRecDepth 100000
noncomputable section
def za8 (N:Nat) (a0:DataType) (a1:Value):Option ByteArray:=
 cond (a0.Kind==0) (some a1.S) (cond (a0.Kind==3) (cond (decide (a1.N<0)) ((zaw a0).bind fun r1=>
  if(w6 (8*r1))<0 then none else(zaw a0).bind fun r2=>
  (zay N (w6 (a1.N+(w6 (1*2^(min (w6 (8*r1)).toNat 64))))) r2).bind fun r3=>some r3) ((zaw a0).bind fun r4=>
  (zay N a1.N r4).bind fun r5=>some r5)) ((zfz a1.N).bind fun r6=>(zde N r6 a0.Length).bind fun r7=>cond (a0.Kind==2)
  (if 0≤a0.Length then(if a0.Length≤a0.Length then(cond (Nat.ble (a0.Length.toNat*1) zr)
  ((zh (za8.r1 N) N (r7,(List.replicate a0.Length.toNat (0:Int)),0,a0,a1)).bind fun y8=>cond (decide (y8.2.2.2.2.N<0))
  (if 0≤(w6 (y8.2.2.2.1.Length-1))then(if(w6 (y8.2.2.2.1.Length-1))<(y8.1.length:Int)then((y8.1[(w6 (y8.2.2.2.1.Length-1)).toNat]?).bind fun x9=>
  if 0≤(w6 (y8.2.2.2.1.Length-1))then(if(w6 (y8.2.2.2.1.Length-1))<(y8.2.1.length:Int)then((y8.2.1[(w6 (y8.2.2.2.1.Length-1)).toNat]?).bind fun x10=>
  some (zdg (y8.2.1.set ((w6 (y8.2.2.2.1.Length-1)).toNat) (IntKind.wrap .u8 (w6 (208+x9))))))else none)else none)else none)else none)
  (some (zdg y8.2.1))) none)else none)else none) (cond ((a0.Length.tmod 2)==0) (cond (Nat.ble ((([0]:List Int).length+r7.length)*8) zr)
  ((zbb (decide (a1.N<0))).bind fun r11=>
  cond (Nat.ble (((([0]:List Int)++r7).length+([(w6 (15-(w6 (2*r11))))]:List Int).length)*8) zr)
  (if 0≤(w6 ((((([0]:List Int)++r7)++([(w6 (15-(w6 (2*r11))))]:List Int)).length:Int).tdiv 2))then(if(w6 ((((([0]:List Int)++r7)++([(w6 (15-(w6 (2*r11))))]:List Int)).length:Int).tdiv 2))≤(w6 ((((([0]:List Int)++r7)++([(w6 (15-(w6 (2*r11))))]:List Int)).length:Int).tdiv 2))then(cond (Nat.ble ((w6 ((((([0]:List Int)++r7)++([(w6 (15-(w6 (2*r11))))]:List Int)).length:Int).tdiv 2)).toNat*1) zr)
  ((zh (za8.r3 N) N (((([0]:List Int)++r7)++([(w6 (15-(w6 (2*r11))))]:List Int)),(List.replicate (w6 ((((([0]:List Int)++r7)++([(w6 (15-(w6 (2*r11))))]:List Int)).length:Int).tdiv 2)).toNat (0:Int)),0)).bind fun y12=>
  some (zdg y12.2.1)) none)else none)else none) none) none) ((zbb (decide (a1.N<0))).bind fun r13=>
  cond (Nat.ble ((r7.length+([(w6 (15-(w6 (2*r13))))]:List Int).length)*8) zr)
  (if 0≤(w6 (((r7++([(w6 (15-(w6 (2*r13))))]:List Int)).length:Int).tdiv 2))then(if(w6 (((r7++([(w6 (15-(w6 (2*r13))))]:List Int)).length:Int).tdiv 2))≤(w6 (((r7++([(w6 (15-(w6 (2*r13))))]:List Int)).length:Int).tdiv 2))then(cond (Nat.ble ((w6 (((r7++([(w6 (15-(w6 (2*r13))))]:List Int)).length:Int).tdiv 2)).toNat*1) zr)
  ((zh (za8.r3 N) N ((r7++([(w6 (15-(w6 (2*r13))))]:List Int)),(List.replicate (w6 (((r7++([(w6 (15-(w6 (2*r13))))]:List Int)).length:Int).tdiv 2)).toNat (0:Int)),0)).bind fun y14=>
  some (zdg y14.2.1)) none)else none)else none) none))))
def za8.k (N:Nat):Kq:=⟨156,(cvv [Ty.str] [Ty.DataType,Ty.Value] (za8 N)),go [zaw.k,zbb.k,zfz.k,zay.k N,zde.k N] {lits:=[31,35,92]} [(1,.plain {slots:=[(2,.ptr 2 0),(3,.ptr 3 0),(6,.own 5000006 T6),(7,.own 5000007 (Ty.int .u8)),(8,.val T6)],boxes:=[(2,Ty.DataType,[]),(3,Ty.Value,[])]} [(Ty.sl T6),(Ty.sl (Ty.int .u8)),T6,Ty.DataType,Ty.Value] (zh (za8.r1 N) N)),(3,.plain {slots:=[(6,.own 5000006 T6),(9,.own 5000009 (Ty.int .u8)),(10,.val T6)],boxes:=[]} [(Ty.sl T6),(Ty.sl (Ty.int .u8)),T6] (zh (za8.r3 N) N))] Proofs.Tryz.func156 (hL:=⟨⟨_,_,rfl,by kernel_rfl⟩,⟨_,_,rfl,by kernel_rfl⟩,trivial⟩)⟩
def zbd.b2 (N:Nat) (s5:List Int) (s6:Int) (s7:List Int) (s8:Int) (s9:Int) (b2:zL) (b3:zL) (b4:zL):Option (Stp ((List Int) × Int × (List Int) × Int × Int × zL × zL × zL)):=
 (cond (decide (s9<(b2.zZ.length:Int))) (some true) (some (decide (s8>0)))).bind fun g3001=>cond g3001 (cond (decide (s9<(b2.zZ.length:Int)))
  ((idx b2.zZ s9).bind fun x3002=>(idx b3.zZ s6).bind fun x3003=>
  cond (Nat.ble ((s7.length+([((w6 (s8+(w6 (x3002*x3003)))).tmod 10)]:List Int).length)*8) zr)
  (some (.again (s5,s6,(s7++([((w6 (s8+(w6 (x3002*x3003)))).tmod 10)]:List Int)),(w6 ((w6 (s8+(w6 (x3002*x3003)))).tdiv 10)),(w6 (s9+1)),b2,b3,b4))) none)
  (cond (Nat.ble ((s7.length+([(s8.tmod 10)]:List Int).length)*8) zr)
  (some (.again (s5,s6,(s7++([(s8.tmod 10)]:List Int)),(w6 (s8.tdiv 10)),(w6 (s9+1)),b2,b3,b4))) none))
  (some (.leave (s5,s6,s7,s8,s9,b2,b3,b4)))
def zbd.r2 (N:Nat) (x:(List Int) × Int × (List Int) × Int × Int × zL × zL × zL):=zbd.b2 N x.1 x.2.1 x.2.2.1 x.2.2.2.1 x.2.2.2.2.1 x.2.2.2.2.2.1 x.2.2.2.2.2.2.1 x.2.2.2.2.2.2.2
def zbd.b0 (N:Nat) (s5:List Int) (s6:Int) (b2:zL) (b3:zL) (b4:zL):Option (Stp ((List Int) × Int × zL × zL × zL)):=
 cond (decide (s6<(b3.zZ.length:Int))) (if 0≤s6 then(if s6≤s6 then(cond (Nat.ble (s6.toNat*8) zr)
  ((zh (zbd.r2 N) N (s5,s6,(List.replicate s6.toNat (0:Int)),0,0,b2,b3,b4)).bind fun y1001=>(zc4 N y1001.1 y1001.2.2.1).bind fun r1002=>
  some (.again (r1002,(w6 (y1001.2.1+1)),y1001.2.2.2.2.2.1,y1001.2.2.2.2.2.2.1,y1001.2.2.2.2.2.2.2))) none)else none)else none)
  (some (.leave (s5,s6,b2,b3,b4)))
def zbd.r0 (N:Nat) (x:(List Int) × Int × zL × zL × zL):=zbd.b0 N x.1 x.2.1 x.2.2.1 x.2.2.2.1 x.2.2.2.2
def zbd (N:Nat) (a0:zL) (a1:zL):Option zL:=
 (zh (zbd.r0 N) N ([],0,a0,a1,(⟨false,[]⟩:zL))).bind fun y1=>(zcb N y1.1).bind fun r2=>(cond (!(y1.2.2.1.Below==y1.2.2.2.1.Below))
  (some (decide ((r2.length:Int)>0))) (some false)).bind fun g3=>some (⟨g3,r2⟩:zL)
def zbd.k (N:Nat):Kq:=⟨295,(cvv [Ty.zL] [Ty.zL,Ty.zL] (zbd N)),go [zc4.k N,zcb.k N] {lits:=[53]} [(2,.plain {slots:=[(2,.ptr 2 0),(3,.ptr 3 0),(4,.ptr 4 0),(5,.val (Ty.sl T6)),(6,.val T6),(7,.own 5000007 T6),(8,.val T6),(9,.val T6)],boxes:=[(2,Ty.zL,[]),(3,Ty.zL,[]),(4,Ty.zL,[1])]} [(Ty.sl T6),T6,(Ty.sl T6),T6,T6,Ty.zL,Ty.zL,Ty.zL] (zh (zbd.r2 N) N)),(0,.plain {slots:=[(2,.ptr 2 0),(3,.ptr 3 0),(4,.ptr 4 0),(5,.val (Ty.sl T6)),(6,.val T6)],boxes:=[(2,Ty.zL,[]),(3,Ty.zL,[]),(4,Ty.zL,[1])]} [(Ty.sl T6),T6,Ty.zL,Ty.zL,Ty.zL] (zh (zbd.r0 N) N))] Proofs.Tryz.func295 (hL:=⟨⟨_,_,rfl,by kernel_rfl⟩,⟨_,_,rfl,by kernel_rfl⟩,trivial⟩)⟩
def zm5 (N:Nat) (a0:Int) (a1:Number) (a2:Number):Option (zW × Int):=
 (zhr N a1 a2).bind fun r1=>(cond (a0==3) (some true) (some (a0==4))).bind fun g2=>(cond g2 (some ((r1.2.1.zZ.length:Int)==0))
  (some false)).bind fun g3=>cond g3 (some ((⟨(⟨false,[]⟩:zL),[]⟩:zW),20)) (cond (a0==1) ((cond (!r1.2.1.Below)
  (some (decide ((r1.2.1.zZ.length:Int)>0))) (some false)).bind fun g4=>(zkj N r1.1 (⟨g4,r1.2.1.zZ⟩:zL)).bind fun r5=>
  (zgw r1.2.2).bind fun r6=>some ((⟨r5,r6⟩:zW),0)) (cond (a0==2) ((zbd N r1.1 r1.2.1).bind fun r7=>
  (zgw (w6 (2*r1.2.2))).bind fun r8=>some ((⟨r7,r8⟩:zW),0)) (cond (a0==3)
  (some ((⟨(⟨(!(r1.1.Below==r1.2.1.Below)),r1.1.zZ⟩:zL),r1.2.1.zZ⟩:zW),0)) (cond (a0==4)
  ((za4 N r1.1.zZ r1.2.1.zZ).bind fun r9=>(zgw r1.2.2).bind fun r10=>some ((⟨(⟨r1.1.Below,r9.2⟩:zL),r10⟩:zW),0))
  ((zkj N r1.1 r1.2.1).bind fun r11=>(zgw r1.2.2).bind fun r12=>some ((⟨r11,r12⟩:zW),0))))))
def zm5.k (N:Nat):Kq:=⟨227,(cvv [Ty.zW,T6] [T6,Ty.Number,Ty.Number] (zm5 N)),go [zhr.k N,zkj.k N,zgw.k,zbd.k N,za4.k N] {} [] Proofs.Tryz.func227⟩
def zda (N:Nat) (a0:yA) (a1:Number) (a2:Number):Option (Value × Int):=
 (zg a0.Op 0 4).bind fun r1=>cond (!r1) (some ((⟨0,(⟨#[]⟩:ByteArray)⟩:Value),4)) ((zcp a1).bind fun r2=>cond (r2 !=0)
  (some ((⟨0,(⟨#[]⟩:ByteArray)⟩:Value),r2)) ((zcp a2).bind fun r3=>cond (r3 !=0) (some ((⟨0,(⟨#[]⟩:ByteArray)⟩:Value),r3))
  ((zfy a0.zF).bind fun r4=>cond (r4 !=0) (some ((⟨0,(⟨#[]⟩:ByteArray)⟩:Value),r4)) ((zm5 N a0.Op a1 a2).bind fun r5=>cond (r5.2 !=0)
  (some ((⟨0,(⟨#[]⟩:ByteArray)⟩:Value),r5.2)) ((zjd N r5.1 a0.zF a0.Half).bind fun r6=>some ((⟨r6.1,(⟨#[]⟩:ByteArray)⟩:Value),r6.2))))))
def zda.k (N:Nat):Kq:=⟨157,(cvv [Ty.Value,T6] [Ty.yA,Ty.Number,Ty.Number] (zda N)),go [zg.k,zcp.k,zfy.k,zjd.k N,zm5.k N] {} [] Proofs.Tryz.func157⟩
def znk (N:Nat) (a0:zC) (a1:zB):Option (Int × zC):=
 cond (a1.Op==0) ((zgv N a0 a1.Place a1.zF).bind fun r1=>cond (r1.2 !=0) (some (r1.2,a0))
  (if 0≤a1.R then(if a1.R<(a0.Registers.length:Int)then((a0.Registers[a1.R.toNat]?).bind fun x2=>
  some (0,{a0 with Registers:=(a0.Registers.set a1.R.toNat r1.1)}))else none)else none))
  (cond (a1.Op==1) (if 0≤a1.R then(if a1.R<(a0.Registers.length:Int)then((a0.Registers[a1.R.toNat]?).bind fun x3=>(zgp N x3 a1.zF a1.Half).bind fun r4=>
  cond (r4.2 !=0) (some (2,a0)) ((zaw a1.zF).bind fun r5=>(zbw N a0 a1.Place r5).bind fun r6=>cond (r6.2 !=0) (some (r6.2,a0))
  ((za8 N a1.zF r4.1).bind fun r7=>(zbi N a0.Storage r6.1 r7).bind fun r8=>
  some (0,{a0 with Storage:=r8}))))else none)else none) (cond (a1.Op==2)
  (if 0≤a1.R then(if a1.R<(a0.Registers.length:Int)then((a0.Registers[a1.R.toNat]?).bind fun x9=>
  some (0,{a0 with Registers:=(a0.Registers.set a1.R.toNat a1.Number)}))else none)else none)
  (cond (a1.Op==3) (if 0≤a1.A then(if a1.A<(a0.Registers.length:Int)then((a0.Registers[a1.A.toNat]?).bind fun x10=>
  if 0≤a1.R then(if a1.R<(a0.Registers.length:Int)then((a0.Registers[a1.R.toNat]?).bind fun x11=>
  some (0,{a0 with Registers:=(a0.Registers.set a1.R.toNat x10)}))else none)else none)else none)else none)
  (cond (a1.Op==5) (if 0≤a1.A then(if a1.A<(a0.Registers.length:Int)then((a0.Registers[a1.A.toNat]?).bind fun x12=>
  if 0≤a1.B then(if a1.B<(a0.Registers.length:Int)then((a0.Registers[a1.B.toNat]?).bind fun x13=>(zgx N x12 x13).bind fun r14=>
  (zc3 r14).bind fun r15=>
  some (0,{a0 with Condition:=r15}))else none)else none)else none)else none)
  (cond (a1.Op==21) (if 0≤a1.R then(if a1.R<(a0.Registers.length:Int)then((a0.Registers[a1.R.toNat]?).bind fun x16=>
  some (0,(⟨(a0.Registers.set a1.R.toNat (⟨a0.Exception,0⟩:Number)),a0.Condition,a0.Storage,a0.At,a0.Stack,a0.Lines,a0.Status,a0.Exception,a0.Marks,a0.Steps⟩:zC)))else none)else none)
  (cond (a1.Op==4) (cond a1.zP ((zgv N a0 a1.Place a1.Second).bind fun r17=>cond (r17.2 !=0) (some (r17.2,a0))
  (if 0≤a1.A then(if a1.A<(a0.Registers.length:Int)then((a0.Registers[a1.A.toNat]?).bind fun x18=>
  (zda N (⟨a1.zM,a1.zF,false⟩:yA) x18 r17.1).bind fun r19=>cond (r19.2==20) (some (3,a0)) (cond (r19.2 !=0) (some (2,a0))
  (if 0≤a1.R then(if a1.R<(a0.Registers.length:Int)then((a0.Registers[a1.R.toNat]?).bind fun x20=>
  some (0,(⟨(a0.Registers.set a1.R.toNat (⟨r19.1.N,a1.zF.Scale⟩:Number)),a0.Condition,a0.Storage,a0.At,a0.Stack,a0.Lines,a0.Status,a0.Exception,a0.Marks,a0.Steps⟩:zC)))else none)else none)))else none)else none))
  (if 0≤a1.B then(if a1.B<(a0.Registers.length:Int)then((a0.Registers[a1.B.toNat]?).bind fun x21=>
  if 0≤a1.A then(if a1.A<(a0.Registers.length:Int)then((a0.Registers[a1.A.toNat]?).bind fun x22=>
  (zda N (⟨a1.zM,a1.zF,false⟩:yA) x22 x21).bind fun r23=>cond (r23.2==20) (some (3,a0)) (cond (r23.2 !=0) (some (2,a0))
  (if 0≤a1.R then(if a1.R<(a0.Registers.length:Int)then((a0.Registers[a1.R.toNat]?).bind fun x24=>
  some (0,(⟨(a0.Registers.set a1.R.toNat (⟨r23.1.N,a1.zF.Scale⟩:Number)),a0.Condition,a0.Storage,a0.At,a0.Stack,a0.Lines,a0.Status,a0.Exception,a0.Marks,a0.Steps⟩:zC)))else none)else none)))else none)else none)else none)else none))
  (some (0,a0))))))))
def znk.k (N:Nat):Kq:=⟨91,(ctv [.ptr Ty.zC true [0,5,6],.val Ty.zB] [T6] [Ty.zC] [] [Ty.zC,Ty.zB] (znk N)),go [zaw.k,zc3.k,zgx.k N,zbw.k N,zbi.k N,zgv.k N,zgp.k N,za8.k N,zda.k N] {lits:=[70,86,137],pk:=[1000000]} [] Proofs.Tryz.func91⟩
def ze (N:Nat) (a0:zH) (a1:zC):Option (Int × Int × zC):=
 (idx a0.zA a1.At).bind fun x1=>cond (x1.Op==6) (cond ((zj .i64 x1.Mask a1.Condition) !=0) (some (x1.Target,0,a1))
  (some ((w6 (a1.At+1)),0,a1))) (cond (x1.Op==7) (if 0≤x1.A then(if x1.A<(a1.Registers.length:Int)then((a1.Registers[x1.A.toNat]?).bind fun x2=>
  if 0≤x1.B then(if x1.B<(a1.Registers.length:Int)then((a1.Registers[x1.B.toNat]?).bind fun x3=>(zgx N x2 x3).bind fun r4=>(zc3 r4).bind fun r5=>
  cond ((zj .i64 x1.Mask r5) !=0) (some (x1.Target,0,a1)) (some ((w6 (a1.At+1)),0,a1)))else none)else none)else none)else none) (cond (x1.Op==8)
  (some (x1.Target,0,a1)) (cond (x1.Op==18) (cond ((a1.Stack.length:Int)==6) (some (0,6,a1)) (cond (Nat.ble ((a1.Stack.length+([a1.At]:List Int).length)*8) zr)
  (some (x1.Target,0,{a1 with Stack:=(a1.Stack++([a1.At]:List Int))})) none))
  (cond (x1.Op==19) (cond ((a1.Stack.length:Int)==0)
  (some ((w6 (a1.At+1)),0,{a1 with Status:=1}))
  (if 0≤(w6 ((a1.Stack.length:Int)-1))then(if(w6 ((a1.Stack.length:Int)-1))<(a1.Stack.length:Int)then((a1.Stack[(w6 ((a1.Stack.length:Int)-1)).toNat]?).bind fun x6=>
  if 0≤(w6 ((a1.Stack.length:Int)-1))∧(w6 ((a1.Stack.length:Int)-1))≤(a1.Stack.length:Int)then(if 0≤(0:Int)∧(0:Int)≤(w6 ((a1.Stack.length:Int)-1))then(some ((w6 (x6+1)),0,{a1 with Stack:=((a1.Stack.drop ((0:Int).toNat)).take ((w6 ((a1.Stack.length:Int)-1)).toNat-(0:Int).toNat))}))else none)else none)else none)else none))
  (cond (x1.Op==20) (if 0≤x1.R then(if x1.R<(a1.Registers.length:Int)then((a1.Registers[x1.R.toNat]?).bind fun x7=>(zf4 N x7).bind fun r8=>
  (zg r8 100 999).bind fun r9=>cond r9 (some (0,r8,a1)) (some (0,2,a1)))else none)else none) (cond (x1.Op==25) (cond (a1.Marks==300)
  (some ((w6 (a1.At+1)),0,{a1 with Status:=3}))
  (some ((w6 (a1.At+1)),0,{a1 with Marks:=(w6 (a1.Marks+1))})))
  (cond (x1.Op==26)
  (some ((w6 (a1.At+1)),0,{a1 with Status:=1}))
  ((cond (x1.Op==22) (some (x1.Op==22)) (cond (x1.Op==23) (some (x1.Op==23)) (some (x1.Op==24)))).bind fun q10=>cond q10 ((zn8 N a1 x1).bind fun r11=>
  some ((w6 (a1.At+1)),r11.1,r11.2)) ((cond (x1.Op==14) (some (x1.Op==14)) (cond (x1.Op==15) (some (x1.Op==15)) (cond (x1.Op==16) (some (x1.Op==16))
  (some (x1.Op==17))))).bind fun q12=>cond q12 ((zn9 N a1 x1).bind fun r13=>some ((w6 (a1.At+1)),r13.1,r13.2)) ((cond (x1.Op==9)
  (some (x1.Op==9)) (cond (x1.Op==10) (some (x1.Op==10)) (cond (x1.Op==11) (some (x1.Op==11)) (cond (x1.Op==12) (some (x1.Op==12))
  (some (x1.Op==13)))))).bind fun q14=>cond q14 ((znl N a1 x1).bind fun r15=>some ((w6 (a1.At+1)),r15.1,r15.2))
  ((znk N a1 x1).bind fun r16=>some ((w6 (a1.At+1)),r16.1,r16.2))))))))))))
def ze.k (N:Nat):Kq:=⟨41,(ctv [.val Ty.zH,.ptr Ty.zC true [0,5,6]] [T6,T6] [Ty.zC] [] [Ty.zH,Ty.zC] (ze N)),go [zg.k,zc3.k,zgx.k N,zf4.k N,zn8.k N,zn9.k N,znl.k N,znk.k N] {lits:=[60,87],pk:=[1000000],bj:=[170,178,187]} [] Proofs.Tryz.func41⟩
def zcs.b0 (N:Nat) (s1:Int) (s2:Int) (s7:Int) (b3:zH):Option (Round Int (Int × Int × Int × zH)):=
 cond (decide (s7<(b3.zS.length:Int))) ((idx b3.zS s7).bind fun x1001=>(cond (decide (x1001.From≤s1)) (some (decide (s1<x1001.To))) (some false)).bind fun g1002=>
  (cond g1002 ((cond (x1001.Exception==0) (some true) (some (x1001.Exception==s2))).bind fun g1003=>some g1003) (some false)).bind fun g1004=>
  cond g1004 (some (.result x1001.Handler)) (some (.again (s1,s2,(w6 (s7+1)),b3)))) (some (.leave (s1,s2,s7,b3)))
def zcs.r0 (N:Nat) (x:Int × Int × Int × zH):=zcs.b0 N x.1 x.2.1 x.2.2.1 x.2.2.2
def zcs (N:Nat) (a0:zH) (a1:Int) (a2:Int):Option Int:=
 (zo (zcs.r0 N) N (a1,a2,0,a0)).bind fun z2=>zbu z2 (fun z=>some z) (fun y1=>some (-1))
def zcs.k (N:Nat):Kq:=⟨92,(cvv [T6] [Ty.zH,T6,T6] (zcs N)),go [] {} [(0,.rets {slots:=[(1,.val T6),(2,.val T6),(3,.ptr 3 0),(7,.val T6)],boxes:=[(3,Ty.zH,[])]} [T6,T6,T6,Ty.zH] (zo (zcs.r0 N) N))] Proofs.Tryz.func92 (hL:=⟨⟨_,_,rfl,by kernel_rfl⟩,trivial⟩)⟩
def zec.b0 (N:Nat) (s2:Int) (b3:zH) (b4:zC) (b6:zC):Option (Round zC (Int × zH × zC × zC)):=
 (zcs N b3 b4.At s2).bind fun r1001=>cond (r1001 !=(-1))
  (some (.result (⟨b4.Registers,b4.Condition,b4.Storage,r1001,b4.Stack,b4.Lines,b4.Status,b4.Exception,b4.Marks,b4.Steps⟩:zC))) (cond ((b4.Stack.length:Int)==0)
  (some (.result (⟨b4.Registers,b4.Condition,b4.Storage,b4.At,b4.Stack,b4.Lines,2,b4.Exception,b4.Marks,b4.Steps⟩:zC)))
  ((idx b4.Stack (w6 ((b4.Stack.length:Int)-1))).bind fun x1002=>
  if 0≤(w6 ((b4.Stack.length:Int)-1))∧(w6 ((b4.Stack.length:Int)-1))≤(b4.Stack.length:Int)then(if 0≤(0:Int)∧(0:Int)≤(w6 ((b4.Stack.length:Int)-1))then(some (.again (s2,b3,(⟨b4.Registers,b4.Condition,b4.Storage,x1002,((b4.Stack.take (w6 ((b4.Stack.length:Int)-1)).toNat).drop (0:Int).toNat),b4.Lines,b4.Status,b4.Exception,b4.Marks,b4.Steps⟩:zC),b6)))else none)else none))
def zec.r0 (N:Nat) (x:Int × zH × zC × zC):=zec.b0 N x.1 x.2.1 x.2.2.1 x.2.2.2
def zec (N:Nat) (a0:zH) (a1:zC) (a2:Int):Option zC:=
 (zo (zec.r0 N) N (a2,a0,{a1 with Exception:=a2},(⟨[],0,(⟨(⟨#[]⟩:ByteArray),[]⟩:Storage),0,[],[],0,0,0,0⟩:zC))).bind fun z2=>
  zbu z2 (fun z=>some z) (fun y1=>some y1.2.2.2)
def zec.k (N:Nat):Kq:=⟨42,(cvv [Ty.zC] [Ty.zH,Ty.zC,T6] (zec N)),go [zcs.k N] {} [(0,.rets {slots:=[(2,.val T6),(3,.ptr 3 0),(4,.ptr 4 0),(6,.ptr 6 0)],boxes:=[(3,Ty.zH,[]),(4,Ty.zC,[]),(6,Ty.zC,[0,3,5,6])]} [T6,Ty.zH,Ty.zC,Ty.zC] (zo (zec.r0 N) N))] Proofs.Tryz.func42 (hL:=⟨⟨_,_,rfl,by kernel_rfl⟩,trivial⟩)⟩
def znm (N:Nat) (a0:zH) (a1:zC):Option zC:=
 (zm3 a1).bind fun r1=>
  (ze N a0 {r1 with Steps:=(w6 (r1.Steps+1))}).bind fun r2=>
  cond (r2.2.1 !=0) ((zm3 a1).bind fun r3=>
  (zec N a0 {r3 with Steps:=(w6 (r3.Steps+1))} r2.2.1).bind fun r4=>
  (cond (r4.Status==0) (some (r4.Steps==3000)) (some false)).bind fun g5=>
  cond g5 (some {r4 with Status:=3}) (some r4)) (cond (r2.2.2.Status==0)
  (cond (r2.1==(a0.zA.length:Int))
  (some (⟨r2.2.2.Registers,r2.2.2.Condition,r2.2.2.Storage,r2.2.2.At,r2.2.2.Stack,r2.2.2.Lines,1,r2.2.2.Exception,r2.2.2.Marks,r2.2.2.Steps⟩:zC))
  ((cond (r2.2.2.Status==0) (some (r2.2.2.Steps==3000)) (some false)).bind fun g6=>
  cond g6 (some (⟨r2.2.2.Registers,r2.2.2.Condition,r2.2.2.Storage,r2.1,r2.2.2.Stack,r2.2.2.Lines,3,r2.2.2.Exception,r2.2.2.Marks,r2.2.2.Steps⟩:zC))
  (some (⟨r2.2.2.Registers,r2.2.2.Condition,r2.2.2.Storage,r2.1,r2.2.2.Stack,r2.2.2.Lines,r2.2.2.Status,r2.2.2.Exception,r2.2.2.Marks,r2.2.2.Steps⟩:zC))))
  ((cond (r2.2.2.Status==0) (some (r2.2.2.Steps==3000)) (some false)).bind fun g7=>
  cond g7 (some (⟨r2.2.2.Registers,r2.2.2.Condition,r2.2.2.Storage,r2.2.2.At,r2.2.2.Stack,r2.2.2.Lines,3,r2.2.2.Exception,r2.2.2.Marks,r2.2.2.Steps⟩:zC))
  (some r2.2.2)))
def znm.k (N:Nat):Kq:=⟨17,(cvv [Ty.zC] [Ty.zH,Ty.zC] (znm N)),go [zm3.k,ze.k N,zec.k N] {} [] Proofs.Tryz.func17⟩
def zu.b2 (N:Nat) (s5:List (List zD)) (s8:Int) (s9:Int) (b2:zJ) (b3:zH) (b7:zC):Option (Round Bool ((List (List zD)) × Int × Int × zJ × zH × zC)):=
 (idx s5 b7.At).bind fun x3001=>cond (decide (s9<(x3001.length:Int))) ((idx s5 b7.At).bind fun x3002=>(idx x3002 s9).bind fun x3003=>
  (zg x3003.Register 0 (w6 (b2.Registers-1))).bind fun r3004=>(cond (!r3004) (some true) ((zeq x3003.zF).bind fun r3005=>
  some (r3005 !=0))).bind fun g3006=>(cond g3006 (some true) ((zb4 x3003.zF.Kind).bind fun r3007=>some (!r3007))).bind fun g3008=>
  cond g3008 (some (.result false)) ((idx b7.Registers x3003.Register).bind fun x3009=>(cond (x3009.Scale !=x3003.zF.Scale) (some true)
  ((zf9 N x3003.zF).bind fun r3010=>(zf9 N x3003.zF).bind fun r3011=>(zg x3009.N (w6 (0-r3010)) r3011).bind fun r3012=>
  some (!r3012))).bind fun g3013=>cond g3013 (some (.result false)) (cond (x3003.Offset==(-1)) (some (.again (s5,s8,(w6 (s9+1)),b2,b3,b7)))
  ((zaw x3003.zF).bind fun r3014=>(zg x3003.Offset 0 (w6 ((b7.Storage.Bytes.size:Int)-r3014))).bind fun r3015=>cond (!r3015)
  (some (.result false)) ((zaw x3003.zF).bind fun r3016=>
  if 0≤(w6 (x3003.Offset+r3016))∧(w6 (x3003.Offset+r3016))≤(b7.Storage.Bytes.size:Int)then(if 0≤x3003.Offset∧x3003.Offset≤(w6 (x3003.Offset+r3016))then((zhf N x3003.zF (b7.Storage.Bytes.extract x3003.Offset.toNat (w6 (x3003.Offset+r3016)).toNat)).bind fun r3017=>
  (cond (r3017.2.2 !=0) (some true) (some (r3017.1.N !=x3009.N))).bind fun g3018=>cond g3018 (some (.result false))
  (some (.again (s5,s8,(w6 (s9+1)),b2,b3,b7))))else none)else none))))) (some (.leave (s5,s8,s9,b2,b3,b7)))
def zu.r2 (N:Nat) (x:(List (List zD)) × Int × Int × zJ × zH × zC):=zu.b2 N x.1 x.2.1 x.2.2.1 x.2.2.2.1 x.2.2.2.2.1 x.2.2.2.2.2
def zu.b0 (N:Nat) (s5:List (List zD)) (s8:Int) (b2:zJ) (b3:zH) (b7:zC):Option (Round Bool ((List (List zD)) × Int × zJ × zH × zC)):=
 (cond (decide (s8<200)) (some (b7.Status==0)) (some false)).bind fun g1001=>cond g1001 ((zo (zu.r2 N) N (s5,s8,0,b2,b3,b7)).bind fun z1003=>
  zbu z1003 (fun z=>some (.result z)) (fun y1002=>(znm N y1002.2.2.2.2.1 y1002.2.2.2.2.2).bind fun r1004=>
  some (.again (y1002.1,(w6 (y1002.2.1+1)),y1002.2.2.2.1,y1002.2.2.2.2.1,r1004)))) (some (.leave (s5,s8,b2,b3,b7)))
def zu.r0 (N:Nat) (x:(List (List zD)) × Int × zJ × zH × zC):=zu.b0 N x.1 x.2.1 x.2.2.1 x.2.2.2.1 x.2.2.2.2
def zu (N:Nat) (a0:zJ) (a1:zH):Option Bool:=
 (zn3 N).bind fun r1=>cond (!r1) (some false) ((zfd N a1).bind fun r2=>(cond (!r2) (some true) ((zl8 N a0 a1).bind fun r3=>
  some (r3 !=0))).bind fun g4=>cond g4 (some true) ((zkg a1).bind fun r5=>(zd4 N a0 r5).bind fun r6=>cond (r6.2 !=0)
  (some ((r6.1.length:Int)==0)) (cond ((r6.1.length:Int) !=(a1.zA.length:Int)) (some false) ((zmf a0 a1).bind fun r7=>
  (zo (zu.r0 N) N (r6.1,0,a0,a1,r7)).bind fun z9=>zbu z9 (fun z=>some z) (fun y8=>some true)))))
def zu.k (N:Nat):Kq:=⟨3,(cvv [Ty.bool] [Ty.zJ,Ty.zH] (zu N)),go [zn3.k N,zfd.k N,zl8.k N,zd4.k N,zkg.k,zmf.k,zg.k,zeq.k,zb4.k,zf9.k N,zaw.k,zhf.k N,znm.k N] {lits:=[29,115]} [(2,.rets {slots:=[(2,.ptr 2 0),(3,.ptr 3 0),(5,.val (Ty.sl (Ty.sl Ty.zD))),(7,.ptr 7 0),(8,.val T6),(9,.val T6)],boxes:=[(2,Ty.zJ,[]),(3,Ty.zH,[]),(7,Ty.zC,[])]} [(Ty.sl (Ty.sl Ty.zD)),T6,T6,Ty.zJ,Ty.zH,Ty.zC] (zo (zu.r2 N) N)),(0,.rets {slots:=[(2,.ptr 2 0),(3,.ptr 3 0),(5,.val (Ty.sl (Ty.sl Ty.zD))),(7,.ptr 7 0),(8,.val T6)],boxes:=[(2,Ty.zJ,[]),(3,Ty.zH,[]),(7,Ty.zC,[])]} [(Ty.sl (Ty.sl Ty.zD)),T6,Ty.zJ,Ty.zH,Ty.zC] (zo (zu.r0 N) N))] Proofs.Tryz.func3 (hL:=⟨⟨_,_,rfl,by kernel_rfl⟩,⟨_,_,rfl,by kernel_rfl⟩,trivial⟩)⟩
end
end Go.Proofs.YtbmfjmakahmclaaGreatDoor.M
