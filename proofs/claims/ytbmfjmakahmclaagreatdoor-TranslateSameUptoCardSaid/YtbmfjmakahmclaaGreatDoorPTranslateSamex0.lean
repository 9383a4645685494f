/- The plain law of TranslateSame: part 0. -/
import Derived.Test.YtbmfjmakahmclaaGreatDoorF2
import Derived.Test.YtbmfjmakahmclaaGreatDoorA4
import Derived.Lib.Strings
namespace Go.Proofs.YtbmfjmakahmclaaGreatDoor.M
open Go Go.Amx
set_option linter.unusedVariables false
set_option linter.unusedSimpArgs false
set_option maxRecDepth 100000
noncomputable section
theorem obs {α β:Type} (a:α) (f:α→Option β):(some a).bind f=f a:=rfl
theorem dct {p:Prop} [Decidable p] (h:p):decide p=true:=decide_eq_true h
theorem dcf {p:Prop} [Decidable p] (h:¬p):decide p=false:=decide_eq_false h
theorem lna {α:Type} {a b:List α}:(a++b).length=a.length+b.length:=List.length_append
theorem lns {α:Type} {a:α}:[a].length=1:=List.length_singleton
theorem lge {α:Type} {l:List α} {i:Nat} (h:i<l.length):l[i]?=some l[i]:=List.getElem?_eq_getElem h
theorem itn (n:Nat):Int.toNat (n:Int)=n:=Int.toNat_natCast n
theorem ctr {α:Sort _} (a b:α):cond true a b=a:=rfl
theorem cfa {α:Sort _} (a b:α):cond false a b=b:=rfl
theorem ifp {c:Prop} {h:Decidable c} (hc:c:=by omega) {α:Sort _} {t e:α}:ite c t e=t:=if_pos hc
theorem ifn {c:Prop} {h:Decidable c} (hc:¬c:=by omega) {α:Sort _} {t e:α}:ite c t e=e:=if_neg hc
theorem bsf {α:Type _} [BEq α] [LawfulBEq α] (a:α):(a !=a)=false:=bne_self_eq_false a
theorem tde {a b:Int} (h:0≤a:=by omega):a.tdiv b=a/b:=Int.tdiv_eq_ediv_of_nonneg h
theorem tme {a b:Int} (h:0≤a:=by omega):a.tmod b=a%b:=Int.tmod_eq_emod_of_nonneg h
theorem lnt {α:Type _} {i:Nat} {l:List α}:(l.take i).length=min i l.length:=List.length_take
theorem lnr {α:Type _} {n:Nat} {a:α}:(List.replicate n a).length=n:=List.length_replicate
theorem gdd {α:Type _} {l:List α} {i:Nat} {a:α}:l.getD i a=l[i]?.getD a:=List.getD_eq_getElem?_getD
theorem cbc {p:Prop} (h:¬p→False):p:=Classical.byContradiction h
theorem lnc {α:Type _} {a:α} {l:List α}:(a::l).length=l.length+1:=List.length_cons
theorem gei {α:Type _} {i:Nat} {a:α} {l:List α} (h:l[i]?=some a):∃h:i<l.length,l[i]=a:=List.getElem?_eq_some_iff.1 h
theorem eof {α β:Type _} {b:β} {f:α→Option β} {l:List α} (h:l.findSome? f=some b):∃a,a∈l∧f a=some b:=List.exists_of_findSome?_eq_some h
theorem ln0 {α:Type _}:([]:List α).length=0:=rfl
theorem lnm {α β:Type _} {l:List α} (f:α→β):(l.map f).length=l.length:=List.length_map f
theorem dr0 {α:Type _} {l:List α}:l.drop 0=l:=rfl
theorem bsa {a b:ByteArray}:(a++b).size=a.size+b.size:=ByteArray.size_append
theorem bnt:(!true)=false:=rfl
theorem mel {a b:Nat} (h:a<b):a%b=a:=Nat.mod_eq_of_lt h
theorem nc0:((0:Nat):Int)=0:=Int.natCast_zero
theorem bst {α:Type _} [BEq α] [ReflBEq α] (a:α):(a==a)=true:=beq_self_eq_true a
theorem lmg {α:Type _} {l:List α} {i:Nat} {a:α} (h:l[i]?=some a):a∈l:=List.mem_of_getElem? h
theorem w6e {n:Int} (h1: -9223372036854775808≤n:=by omega) (h2:n≤9223372036854775807:=by omega):w6 n=n:=zaii h1 h2
def zbt (a0:Int) (a1:Int) (a2:Int):Option Bool:=
 (cond (decide (a1≤a0)) (some (decide (a0≤a2))) (some false)).bind fun g1=>some g1
def zns (a0:zK):Option Int:=
 (zbt a0.Registers 2 8).bind fun r1=>cond (!r1) (some 3) (some 0)
def zvp (a0:Storage) (a1:Int):Option ByteArray:=
 if 0≤(w6 ((w6 (a1*16))+16))∧(w6 ((w6 (a1*16))+16))≤(a0.Bytes.size:Int)then(if 0≤(w6 (a1*16))∧(w6 (a1*16))≤(w6 ((w6 (a1*16))+16))then(some (a0.Bytes.extract (w6 (a1*16)).toNat (w6 ((w6 (a1*16))+16)).toNat))else none)else none
def z0f (N:Nat) (a0:ByteArray):Option (Pointer × Int):=zea N a0
def zdk.b0 (N:Nat) (s4:Int) (s5:Int) (b1:Storage):Option (Round (Int × Int) (Int × Int × Storage)):=
 cond (decide (s5<s4)) ((idx b1.Tags s5).bind fun x1001=>cond x1001 ((zvp b1 s5).bind fun r1002=>(z0f N r1002).bind fun r1003=>cond (r1003.2 !=0)
  (some (.result (s5,22))) (some (.again (s4,(w6 (s5+1)),b1)))) (some (.again (s4,(w6 (s5+1)),b1)))) (some (.leave (s4,s5,b1)))
def zdk.r0 (N:Nat) (x:Int × Int × Storage):=zdk.b0 N x.1 x.2.1 x.2.2
def zdk (N:Nat) (a0:Storage):Option (Int × Int):=
 cond (decide ((a0.Bytes.size:Int)>1024)) (some (0,2)) (cond (((a0.Bytes.size:Int).tmod 16) !=0) (some (0,18))
  (cond ((a0.Tags.length:Int) !=(w6 ((a0.Bytes.size:Int).tdiv 16))) (some (0,6))
  ((zp (zdk.r0 N) N ((w6 ((a0.Bytes.size:Int).tdiv 16)),0,a0)).bind fun z2=>zbq z2 (fun z=>some z) (fun y1=>some (y1.1,0)))))
def zq3 (N:Nat) (a0:Storage):Option Int:=
 (zdk N a0).bind fun r1=>some r1.2
def zd3.b0 (N:Nat) (s3:List Int) (s4:Int) (b1:Storage):Option (Stp ((List Int) × Int × Storage)):=
 cond (decide (s4<(b1.Tags.length:Int))) ((idx b1.Tags s4).bind fun x1001=>
  cond x1001 (cond (Nat.ble ((s3.length+([(w6 (s4*16))]:List Int).length)*8) zae)
  (some (.again ((s3++([(w6 (s4*16))]:List Int)),(w6 (s4+1)),b1))) none) (some (.again (s3,(w6 (s4+1)),b1))))
  (some (.leave (s3,s4,b1)))
def zd3.r0 (N:Nat) (x:(List Int) × Int × Storage):=zd3.b0 N x.1 x.2.1 x.2.2
def zd3 (N:Nat) (a0:Storage):Option ((List Int)):=
 (zi (zd3.r0 N) N ([],0,a0)).bind fun y1=>some y1.1
def zhw (a0:zA):Option zR:=
 cond (a0.Op==0) (some (⟨true,false,false,true,false,false,false,false,false,false,false,false,false,false,1,0⟩:zR)) (cond (a0.Op==1)
  (some (⟨true,false,false,true,false,true,false,false,false,false,false,false,false,false,1,0⟩:zR)) (cond (a0.Op==2)
  (some (⟨true,false,false,false,false,false,true,false,false,false,false,false,false,false,0,0⟩:zR)) (cond (a0.Op==3)
  (some (⟨true,true,false,false,false,false,false,false,false,false,false,false,false,false,0,0⟩:zR)) (cond (a0.Op==4)
  (cond a0.zO (some (⟨true,true,false,true,false,false,false,true,false,false,false,false,false,false,1,1⟩:zR))
  (some (⟨true,true,true,false,false,false,false,true,false,false,false,false,false,false,1,0⟩:zR))) (cond (a0.Op==5)
  (some (⟨false,true,true,false,false,false,false,false,false,false,false,false,false,false,0,0⟩:zR)) (cond (a0.Op==6)
  (some (⟨false,false,false,false,false,false,false,false,true,true,false,false,false,false,0,0⟩:zR)) (cond (a0.Op==7)
  (some (⟨false,true,true,false,false,false,false,false,true,true,false,false,false,false,0,0⟩:zR)) ((cond (a0.Op==8) (some (a0.Op==8))
  (some (a0.Op==18))).bind fun q1=>cond q1 (some (⟨false,false,false,false,false,false,false,false,false,true,false,false,false,false,0,0⟩:zR))
  ((cond (a0.Op==9) (some (a0.Op==9)) (some (a0.Op==11))).bind fun q2=>
  cond q2 (some (⟨false,false,false,true,true,false,false,false,false,false,false,false,false,false,2,2⟩:zR)) ((cond (a0.Op==10) (some (a0.Op==10))
  (some (a0.Op==12))).bind fun q3=>cond q3 (some (⟨false,false,false,true,false,false,false,false,false,false,true,false,false,false,2,0⟩:zR))
  (cond (a0.Op==13) (some (⟨false,false,false,false,false,false,false,false,false,false,true,true,false,false,0,0⟩:zR)) (cond (a0.Op==14)
  (some (⟨false,false,false,true,false,false,false,false,false,false,false,false,true,false,3,0⟩:zR)) (cond (a0.Op==15)
  (some (⟨false,false,false,false,false,false,false,false,false,false,false,false,true,true,0,0⟩:zR)) (cond (a0.Op==16)
  (some (⟨true,false,false,false,false,false,false,false,false,false,false,false,true,false,0,0⟩:zR)) (cond (a0.Op==17)
  (some (⟨false,false,false,false,false,false,false,false,false,false,false,false,true,false,0,0⟩:zR)) ((cond (a0.Op==20) (some (a0.Op==20))
  (cond (a0.Op==21) (some (a0.Op==21)) (some (a0.Op==22)))).bind fun q4=>
  cond q4 (some (⟨true,false,false,false,false,false,false,false,false,false,false,false,false,false,0,0⟩:zR)) (cond (a0.Op==23)
  (some (⟨false,false,false,true,false,false,false,false,false,false,false,false,false,false,2,0⟩:zR)) (cond (a0.Op==24)
  (some (⟨false,false,false,false,false,false,false,false,false,false,true,false,false,false,0,0⟩:zR))
  (some (⟨false,false,false,false,false,false,false,false,false,false,false,false,false,false,0,0⟩:zR))))))))))))))))))))
def zp4 (a0:zA) (a1:zR):Option Bool:=
 (cond (!a1.R) (some (a0.R !=0)) (some false)).bind fun g1=>(cond g1 (some true) ((cond (!a1.A) (some (a0.A !=0)) (some false)).bind fun g2=>some g2)).bind fun g3=>
  (cond g3 (some true) ((cond (!a1.B) (some (a0.B !=0)) (some false)).bind fun g4=>some g4)).bind fun g5=>(cond g5 (some true) ((cond (!a1.zM)
  (some (a0.zM !=0)) (some false)).bind fun g6=>some g6)).bind fun g7=>(cond g7 (some true) ((cond (!a1.Place)
  (some (!(zdq [(a0.Place.Based==false),(a0.Place.Pointer==0),(a0.Place.Offset==0)]))) (some false)).bind fun g8=>some g8)).bind fun g9=>(cond g9 (some true)
  ((cond (!a1.From) (some (!(zdq [(a0.From.Based==false),(a0.From.Pointer==0),(a0.From.Offset==0)]))) (some false)).bind fun g10=>some g10)).bind fun g11=>
  (cond g11 (some true) ((cond (a1.zF==0) (some (!(zdq [(a0.zF.Kind==0),(a0.zF.Length==0),(a0.zF.Scale==0)]))) (some false)).bind fun g12=>
  some g12)).bind fun g13=>(cond g13 (some true) ((cond (a1.Second==0) (some (!(zdq [(a0.Second.Kind==0),(a0.Second.Length==0),(a0.Second.Scale==0)])))
  (some false)).bind fun g14=>some g14)).bind fun g15=>(cond g15 (some true) ((cond (!a1.Half) (some a0.Half) (some false)).bind fun g16=>some g16)).bind fun g17=>
  (cond g17 (some true) ((cond (a0.Op !=4) (some a0.zO) (some false)).bind fun g18=>some g18)).bind fun g19=>(cond g19 (some true) ((cond (!a1.Number)
  (some (!(zdq [(a0.Number.N==0),(a0.Number.Scale==0)]))) (some false)).bind fun g20=>some g20)).bind fun g21=>(cond g21 (some true) ((cond (!a1.Text)
  (some (!(a0.Text.toList==(⟨#[]⟩:ByteArray).toList))) (some false)).bind fun g22=>some g22)).bind fun g23=>(cond g23 (some true) ((cond (!a1.Other)
  (some (!(a0.Other.toList==(⟨#[]⟩:ByteArray).toList))) (some false)).bind fun g24=>some g24)).bind fun g25=>(cond g25 (some true) ((cond (!a1.Mask) (some (a0.Mask !=0))
  (some false)).bind fun g26=>some g26)).bind fun g27=>(cond g27 (some true) ((cond (!a1.Target) (some (a0.Target !=0)) (some false)).bind fun g28=>some g28)).bind fun g29=>
  (cond g29 (some true) ((cond (!a1.Pointer) (some (a0.Pointer !=0)) (some false)).bind fun g30=>some g30)).bind fun g31=>(cond g31 (some true) ((cond (!a1.Source)
  (some (a0.Source !=0)) (some false)).bind fun g32=>some g32)).bind fun g33=>(cond g33 (some true) ((cond (!a0.Place.Based) (some (a0.Place.Pointer !=0))
  (some false)).bind fun g34=>some g34)).bind fun g35=>(cond g35 (some true) ((cond (!a0.From.Based) (some (a0.From.Pointer !=0)) (some false)).bind fun g36=>
  some g36)).bind fun g37=>some g37
def ztv (a0:zK) (a1:zA):Option Bool:=
 (cond (a1.Op==7) (some (!a0.yK)) (some false)).bind fun g1=>(cond g1 (some true) ((cond a1.zO (some (!a0.yI)) (some false)).bind fun g2=>
  some g2)).bind fun g3=>some g3
def zpf (a0:Int):Option Bool:=
 (zbt a0 1 3).bind fun r1=>some r1
def zwt (a0:Bool):Option Int:=
 cond a0 (some 1) (some 0)
def zw0 (a0:DataType):Option Int:=zax 100 a0
def zoc (a0:DataType) (a1:Int):Option Int:=
 cond (a1==0) (some 0) ((zw0 a0).bind fun r1=>cond (r1 !=0) (some r1) ((cond (a1==1) ((zpf a0.Kind).bind fun r2=>some (!r2))
  (some false)).bind fun g3=>(cond g3 (some true) ((cond (a1==2) (some (a0.Kind !=0)) (some false)).bind fun g4=>some g4)).bind fun g5=>(cond g5 (some true)
  ((cond (a1==3) (some (a0.Kind==4)) (some false)).bind fun g6=>some g6)).bind fun g7=>cond g7 (some 17) (some 0)))
def zkg (a0:zK) (a1:Int):Option Bool:=
 (zbt a1 0 (w6 (a0.Registers-1))).bind fun r1=>some r1
def zk1 (a0:zK) (a1:zA):Option Bool:=
 (zhw a1).bind fun r1=>(cond (!r1.R) (some true) ((zkg a0 a1.R).bind fun r2=>some r2)).bind fun g3=>(cond g3 ((cond (!r1.A) (some true)
  ((zkg a0 a1.A).bind fun r4=>some r4)).bind fun g5=>some g5) (some false)).bind fun g6=>(cond g6 ((cond (!r1.B) (some true)
  ((zkg a0 a1.B).bind fun r7=>some r7)).bind fun g8=>some g8) (some false)).bind fun g9=>some g9
def zkh (a0:Storage) (a1:Int):Option Bool:=
 (zbt a1 0 (w6 ((a0.Bytes.size:Int)-16))).bind fun r1=>(cond r1 (some ((a1.tmod 16)==0)) (some false)).bind fun g2=>some g2
def zdp (a0:DataType):Option Int:=
 cond (a0.Kind==1) (some (w6 ((w6 (a0.Length.tdiv 2))+1))) (cond (a0.Kind==3) ((zwt (a0.Length==9)).bind fun r1=>
  some (w6 (2+(w6 (2*r1))))) (cond (a0.Kind==4) (some 16) (some a0.Length)))
def zod (a0:Storage) (a1:Int) (a2:Int):Option Bool:=
 (zbt a1 0 (a0.Bytes.size:Int)).bind fun r1=>(cond r1 ((zbt a2 0 (w6 ((a0.Bytes.size:Int)-a1))).bind fun r2=>some r2)
  (some false)).bind fun g3=>some g3
def zh9 (a0:zH) (a1:zN) (a2:Int):Option Bool:=
 cond a1.Based ((zkh a0.Storage a1.Pointer).bind fun r1=>(cond r1 ((zbt a1.Offset 0 256).bind fun r2=>some r2) (some false)).bind fun g3=>some g3)
  ((zod a0.Storage a1.Offset a2).bind fun r4=>some r4)
def zjb (a0:Number):Option Int:=
 (zbt a0.N (-999999999999999) 999999999999999).bind fun r1=>(cond r1 ((zbt a0.Scale 0 15).bind fun r2=>some r2) (some false)).bind fun g3=>
  (zwt (!g3)).bind fun r4=>some (w6 (3*r4))
def zhx (a0:zK) (a1:zH) (a2:zA):Option Int:=
 (zbt a2.Op 0 26).bind fun r1=>cond (!r1) (some 4) ((zhw a2).bind fun r2=>(zp4 a2 r2).bind fun r3=>cond r3 (some 5)
  ((ztv a0 a2).bind fun r4=>cond r4 (some 39) ((zoc a2.zF r2.zF).bind fun r5=>cond (r5 !=0) (some r5)
  ((zoc a2.Second r2.Second).bind fun r6=>cond (r6 !=0) (some r6) (cond (a2.Op==4) (((zk1 a0 a2).bind fun r7=>cond (!r7) (some (!r7))
  ((cond r2.Target ((zbt a2.Target 0 (w6 ((a1.zB.length:Int)-1))).bind fun r8=>some (!r8)) (some false)).bind fun g9=>cond g9 (some g9)
  ((cond r2.Mask ((zbt a2.Mask 1 7).bind fun r10=>some (!r10)) (some false)).bind fun g11=>some g11))).bind fun q12=>cond q12 (some 3)
  (((cond r2.Pointer ((zkh a1.Storage a2.Pointer).bind fun r13=>some (!r13)) (some false)).bind fun g14=>cond g14 (some g14)
  ((cond r2.Source ((zkh a1.Storage a2.Source).bind fun r15=>some (!r15)) (some false)).bind fun g16=>some g16)).bind fun q17=>cond q17 (some 3)
  ((cond r2.Place ((zdp a2.Second).bind fun r18=>(zh9 a1 a2.Place r18).bind fun r19=>some (!r19)) (some false)).bind fun g20=>cond g20 (cond g20 (some 3)
  ((cond r2.zM ((zbt a2.zM 0 4).bind fun r21=>some (!r21)) (some false)).bind fun g22=>cond g22 (some 3) ((zjb a2.Number).bind fun r23=>
  (cond r2.Number (some (r23 !=0)) (some false)).bind fun g24=>cond g24 (some r23) ((cond (decide ((a2.Text.size:Int)>256)) (some true)
  (some (decide ((a2.Other.size:Int)>256)))).bind fun g25=>cond g25 (some 2) (some 0))))) ((cond r2.From ((zdp a2.Second).bind fun r26=>
  (zh9 a1 a2.From r26).bind fun r27=>some (!r27)) (some false)).bind fun g28=>cond g28 (some 3) ((cond r2.zM ((zbt a2.zM 0 4).bind fun r29=>
  some (!r29)) (some false)).bind fun g30=>cond g30 (some 3) ((zjb a2.Number).bind fun r31=>(cond r2.Number (some (r31 !=0)) (some false)).bind fun g32=>
  cond g32 (some r31) ((cond (decide ((a2.Text.size:Int)>256)) (some true) (some (decide ((a2.Other.size:Int)>256)))).bind fun g33=>cond g33 (some 2) (some 0))))))))
  (((zk1 a0 a2).bind fun r34=>cond (!r34) (some (!r34))
  ((cond r2.Target ((zbt a2.Target 0 (w6 ((a1.zB.length:Int)-1))).bind fun r35=>some (!r35)) (some false)).bind fun g36=>cond g36 (some g36)
  ((cond r2.Mask ((zbt a2.Mask 1 7).bind fun r37=>some (!r37)) (some false)).bind fun g38=>some g38))).bind fun q39=>cond q39 (some 3)
  (((cond r2.Pointer ((zkh a1.Storage a2.Pointer).bind fun r40=>some (!r40)) (some false)).bind fun g41=>cond g41 (some g41)
  ((cond r2.Source ((zkh a1.Storage a2.Source).bind fun r42=>some (!r42)) (some false)).bind fun g43=>some g43)).bind fun q44=>cond q44 (some 3)
  ((cond r2.Place ((zdp a2.zF).bind fun r45=>(zh9 a1 a2.Place r45).bind fun r46=>some (!r46)) (some false)).bind fun g47=>cond g47 (cond g47 (some 3)
  ((cond r2.zM ((zbt a2.zM 0 4).bind fun r48=>some (!r48)) (some false)).bind fun g49=>cond g49 (some 3) ((zjb a2.Number).bind fun r50=>
  (cond r2.Number (some (r50 !=0)) (some false)).bind fun g51=>cond g51 (some r50) ((cond (decide ((a2.Text.size:Int)>256)) (some true)
  (some (decide ((a2.Other.size:Int)>256)))).bind fun g52=>cond g52 (some 2) (some 0))))) ((cond r2.From ((zdp a2.Second).bind fun r53=>
  (zh9 a1 a2.From r53).bind fun r54=>some (!r54)) (some false)).bind fun g55=>cond g55 (some 3) ((cond r2.zM ((zbt a2.zM 0 4).bind fun r56=>
  some (!r56)) (some false)).bind fun g57=>cond g57 (some 3) ((zjb a2.Number).bind fun r58=>(cond r2.Number (some (r58 !=0)) (some false)).bind fun g59=>
  cond g59 (some r58) ((cond (decide ((a2.Text.size:Int)>256)) (some true) (some (decide ((a2.Other.size:Int)>256)))).bind fun g60=>cond g60 (some 2) (some 0)))))))))))))
def zam.b1 (N:Nat) (s8:Int) (b2:zK) (b3:zH):Option (Round (Int × Int) (Int × zK × zH)):=
 cond (decide (s8<(b3.zB.length:Int))) ((idx b3.zB s8).bind fun x2001=>(zhx b2 b3 x2001).bind fun r2002=>cond (r2002 !=0)
  (some (.result (s8,r2002))) (some (.again ((w6 (s8+1)),b2,b3)))) (some (.leave (s8,b2,b3)))
def zam.r1 (N:Nat) (x:Int × zK × zH):=zam.b1 N x.1 x.2.1 x.2.2
def zam.b3 (N:Nat) (s10:Int) (b3:zH):Option (Round (Int × Int) (Int × zH)):=
 cond (decide (s10<(b3.zQ.length:Int))) ((idx b3.zQ s10).bind fun x4001=>(cond (decide (x4001.From<0)) (some true)
  (some (decide (x4001.From>x4001.To)))).bind fun g4002=>(cond g4002 (some true) (some (decide (x4001.To>(b3.zB.length:Int))))).bind fun g4003=>
  (cond g4003 (some true) ((zbt x4001.Exception 0 999).bind fun r4004=>some (!r4004))).bind fun g4005=>(cond g4005 (some true)
  ((zbt x4001.Handler 0 (w6 ((b3.zB.length:Int)-1))).bind fun r4006=>some (!r4006))).bind fun g4007=>cond g4007 (some (.result (s10,3)))
  (some (.again ((w6 (s10+1)),b3)))) (some (.leave (s10,b3)))
def zam.r3 (N:Nat) (x:Int × zH):=zam.b3 N x.1 x.2
def zam (N:Nat) (a0:zK) (a1:zH):Option (Int × Int):=
 (zns a0).bind fun r1=>cond (r1 !=0) (some (0,r1)) ((zq3 N a1.Storage).bind fun r2=>cond (r2 !=0) (some (0,r2))
  ((zd3 N a1.Storage).bind fun r3=>cond (decide ((r3.length:Int)>0)) (some (0,22)) (cond ((a1.zB.length:Int)==0) (some (0,1))
  ((cond (decide ((a1.zB.length:Int)>240)) (some true) (some (decide ((a1.zQ.length:Int)>40)))).bind fun g4=>cond g4 (some (0,2))
  ((zp (zam.r1 N) N (0,a0,a1)).bind fun z6=>zbq z6 (fun z=>some z) (fun y5=>(zp (zam.r3 N) N (0,y5.2.2)).bind fun z8=>zbq z8 (fun z=>
  some z) (fun y7=>some ((y7.2.zB.length:Int),0))))))))
def zxr (N:Nat) (a0:DataType) (a1:ByteArray):Option (Value × Int × Int):=zij N a0 a1
def zst (a0:List ByteArray):Option ((List ByteArray)):=
 cond (Nat.ble (a0.length*16) zae) (some a0) none
def zs1 (a0:zC):Option zC:=
 cond (Nat.ble (a0.Registers.length*16) zae) ((zg1 a0.Storage).bind fun r1=>(zjg a0.Stack).bind fun r2=>(zst a0.Lines).bind fun r3=>
  some (⟨a0.Registers,a0.Condition,r1,a0.At,r2,r3,a0.Status,a0.Exception,a0.Marks,a0.Steps⟩:zC)) none
def zmt (N:Nat) (a0 a1:Number):Option Int:=(zhl N a0 a1).bind fun r=>some r.1
def zk2 (a0:Int):Option Int:=zes a0
def zms (N:Nat) (a0:Number):Option Int:=zb9 N a0
def zrs (N:Nat) (a0:Number):Option ByteArray:=(zep a0).bind fun r=>some r.1
def zmc (N:Nat) (a0:Storage) (a1:Int):Option (Pointer × Int):=zf9 N a0 a1
def zd7 (N:Nat) (a0:zC) (a1:zN) (a2:Int):Option (Int × Int):=
 cond (!a1.Based) (some (a1.Offset,0)) ((zmc N a0.Storage a1.Pointer).bind fun r1=>cond (r1.2 !=0) (some (0,4))
  ((zod a0.Storage (w6 (r1.1.Address.Offset+a1.Offset)) a2).bind fun r2=>cond (!r2) (some (0,5))
  (some ((w6 (r1.1.Address.Offset+a1.Offset)),0))))
def zfw (N:Nat) (a0:zC) (a1:zN) (a2:DataType):Option (ByteArray × Int):=
 (zdp a2).bind fun r1=>(zd7 N a0 a1 r1).bind fun r2=>cond (r2.2 !=0) (some ((⟨#[]⟩:ByteArray),r2.2)) ((zdp a2).bind fun r3=>
  if 0≤(w6 (r2.1+r3))∧(w6 (r2.1+r3))≤(a0.Storage.Bytes.size:Int)then(if 0≤r2.1∧r2.1≤(w6 (r2.1+r3))then(some ((a0.Storage.Bytes.extract r2.1.toNat (w6 (r2.1+r3)).toNat),0))else none)else none)
def z4r (N:Nat) (a0:zC) (a1:zA):Option (Int × zC):=
 cond (a1.Op==22) (if 0≤a1.R then(if a1.R<(a0.Registers.length:Int)then((a0.Registers[a1.R.toNat]?).bind fun x1=>(zrs N x1).bind fun r2=>
  cond ((a0.Lines.length:Int)==40) (some (0,(⟨a0.Registers,a0.Condition,a0.Storage,a0.At,a0.Stack,a0.Lines,3,a0.Exception,a0.Marks,a0.Steps⟩:zC)))
  (cond (Nat.ble ((a0.Lines.length+([r2]:List ByteArray).length)*16) zae)
  (some (0,(⟨a0.Registers,a0.Condition,a0.Storage,a0.At,a0.Stack,(a0.Lines++([r2]:List ByteArray)),a0.Status,a0.Exception,a0.Marks,a0.Steps⟩:zC))) none))else none)else none)
  (cond (a1.Op==23) ((zfw N a0 a1.Place a1.zF).bind fun r3=>cond (r3.2 !=0) (some (r3.2,a0)) (cond ((a0.Lines.length:Int)==40)
  (some (0,(⟨a0.Registers,a0.Condition,a0.Storage,a0.At,a0.Stack,a0.Lines,3,a0.Exception,a0.Marks,a0.Steps⟩:zC)))
  (cond (Nat.ble ((a0.Lines.length+([r3.1]:List ByteArray).length)*16) zae)
  (some (0,(⟨a0.Registers,a0.Condition,a0.Storage,a0.At,a0.Stack,(a0.Lines++([r3.1]:List ByteArray)),a0.Status,a0.Exception,a0.Marks,a0.Steps⟩:zC))) none)))
  (cond ((a0.Lines.length:Int)==40) (some (0,(⟨a0.Registers,a0.Condition,a0.Storage,a0.At,a0.Stack,a0.Lines,3,a0.Exception,a0.Marks,a0.Steps⟩:zC)))
  (cond (Nat.ble ((a0.Lines.length+([a1.Text]:List ByteArray).length)*16) zae)
  (some (0,(⟨a0.Registers,a0.Condition,a0.Storage,a0.At,a0.Stack,(a0.Lines++([a1.Text]:List ByteArray)),a0.Status,a0.Exception,a0.Marks,a0.Steps⟩:zC))) none)))
def zht (N:Nat) (a0:Storage) (a1:Int) (a2:ByteArray):Option Storage:=(ze0 N a0 a1 a2).bind fun r=>some r.1
def zhu (N:Nat) (a0:Storage) (a1:Int) (a2:Pointer):Option Storage:=(zcs N a0 a1 a2).bind fun r=>some r.1
def z4s (N:Nat) (a0:zC) (a1:zA):Option (Int × zC):=
 cond (a1.Op==14) ((zdp a1.zF).bind fun r1=>(zd7 N a0 a1.Place r1).bind fun r2=>cond (r2.2 !=0) (some (r2.2,a0))
  ((zhu N a0.Storage a1.Pointer (⟨0,(⟨1,r2.1⟩:Address),0⟩:Pointer)).bind fun r3=>
  some (0,(⟨a0.Registers,a0.Condition,r3,a0.At,a0.Stack,a0.Lines,a0.Status,a0.Exception,a0.Marks,a0.Steps⟩:zC)))) (cond (a1.Op==15)
  ((zmc N a0.Storage a1.Source).bind fun r4=>cond (r4.2 !=0) (some (4,a0)) (cond (a1.Op==15) ((zhu N a0.Storage a1.Pointer r4.1).bind fun r5=>
  some (0,(⟨a0.Registers,a0.Condition,r5,a0.At,a0.Stack,a0.Lines,a0.Status,a0.Exception,a0.Marks,a0.Steps⟩:zC))) (cond (a1.Op==16)
  (if 0≤a1.R then(if a1.R<(a0.Registers.length:Int)then((a0.Registers[a1.R.toNat]?).bind fun x6=>(zms N x6).bind fun r7=>
  (zbt (w6 (r4.1.Address.Offset+r7)) 0 16777215).bind fun r8=>cond (!r8) (some (5,a0))
  ((zhu N a0.Storage a1.Pointer (⟨r4.1.Kind,(⟨r4.1.Address.yF,(w6 (r4.1.Address.Offset+r7))⟩:Address),r4.1.Authority⟩:Pointer)).bind fun r9=>
  some (0,(⟨a0.Registers,a0.Condition,r9,a0.At,a0.Stack,a0.Lines,a0.Status,a0.Exception,a0.Marks,a0.Steps⟩:zC))))else none)else none) (some (0,a0)))))
  ((zmc N a0.Storage a1.Pointer).bind fun r10=>cond (r10.2 !=0) (some (4,a0)) (cond (a1.Op==15) ((zhu N a0.Storage a1.Pointer r10.1).bind fun r11=>
  some (0,(⟨a0.Registers,a0.Condition,r11,a0.At,a0.Stack,a0.Lines,a0.Status,a0.Exception,a0.Marks,a0.Steps⟩:zC))) (cond (a1.Op==16)
  (if 0≤a1.R then(if a1.R<(a0.Registers.length:Int)then((a0.Registers[a1.R.toNat]?).bind fun x12=>(zms N x12).bind fun r13=>
  (zbt (w6 (r10.1.Address.Offset+r13)) 0 16777215).bind fun r14=>cond (!r14) (some (5,a0))
  ((zhu N a0.Storage a1.Pointer (⟨r10.1.Kind,(⟨r10.1.Address.yF,(w6 (r10.1.Address.Offset+r13))⟩:Address),r10.1.Authority⟩:Pointer)).bind fun r15=>
  some (0,(⟨a0.Registers,a0.Condition,r15,a0.At,a0.Stack,a0.Lines,a0.Status,a0.Exception,a0.Marks,a0.Steps⟩:zC))))else none)else none) (some (0,a0))))))
def ziy (N:Nat) (a0:ByteArray) (a1:Int):Option ByteArray:=(zee a0 a1).bind fun r=>some (r.extract 0 a1.toNat)
def zld (N:Nat) (a0 a1:ByteArray):Option Int:=zdf a0 a1
def z2y (N:Nat) (a0:zC) (a1:zA):Option (Int × zC):=
 (zdp a1.zF).bind fun r1=>cond (a1.Op==13) ((zld N a1.Text a1.Other).bind fun r2=>
  some (0,(⟨a0.Registers,r2,a0.Storage,a0.At,a0.Stack,a0.Lines,a0.Status,a0.Exception,a0.Marks,a0.Steps⟩:zC))) (cond (a1.Op==12)
  ((zfw N a0 a1.Place a1.zF).bind fun r3=>cond (r3.2 !=0) (some (r3.2,a0)) ((zld N r3.1 a1.Text).bind fun r4=>
  some (0,(⟨a0.Registers,r4,a0.Storage,a0.At,a0.Stack,a0.Lines,a0.Status,a0.Exception,a0.Marks,a0.Steps⟩:zC)))) (cond (a1.Op==11)
  ((zfw N a0 a1.Place a1.zF).bind fun r5=>cond (r5.2 !=0) (some (r5.2,a0)) ((zfw N a0 a1.From a1.Second).bind fun r6=>cond (r6.2 !=0) (some (r6.2,a0))
  ((zld N r5.1 r6.1).bind fun r7=>some (0,(⟨a0.Registers,r7,a0.Storage,a0.At,a0.Stack,a0.Lines,a0.Status,a0.Exception,a0.Marks,a0.Steps⟩:zC)))))
  (cond (a1.Op==9) ((zfw N a0 a1.From a1.Second).bind fun r8=>cond (r8.2 !=0) (some (r8.2,a0)) ((zd7 N a0 a1.Place r1).bind fun r9=>cond (r9.2 !=0)
  (some (r9.2,a0)) ((ziy N r8.1 r1).bind fun r10=>(zht N a0.Storage r9.1 r10).bind fun r11=>
  some (0,(⟨a0.Registers,a0.Condition,r11,a0.At,a0.Stack,a0.Lines,a0.Status,a0.Exception,a0.Marks,a0.Steps⟩:zC)))))
  ((zd7 N a0 a1.Place r1).bind fun r12=>cond (r12.2 !=0) (some (r12.2,a0)) ((ziy N a1.Text r1).bind fun r13=>
  (zht N a0.Storage r12.1 r13).bind fun r14=>
  some (0,(⟨a0.Registers,a0.Condition,r14,a0.At,a0.Stack,a0.Lines,a0.Status,a0.Exception,a0.Marks,a0.Steps⟩:zC)))))))
def zkf (N:Nat) (a0:zC) (a1:zN) (a2:DataType):Option (Number × Int):=
 (zfw N a0 a1 a2).bind fun r1=>cond (r1.2 !=0) (some ((⟨0,0⟩:Number),r1.2)) ((zxr N a2 r1.1).bind fun r2=>cond (r2.2.2 !=0) (some ((⟨0,0⟩:Number),1))
  (some ((⟨r2.1.N,a2.Scale⟩:Number),0)))
def zpg (N:Nat) (a0:Number) (a1:DataType) (a2:Bool):Option (Value × Int):=zgv N a0 a1 a2
def zqp (N:Nat) (a0:DataType) (a1:Value):Option ByteArray:=(zgk N a0 a1).bind fun r=>some r.1
def zhk (N:Nat) (a0:yB) (a1 a2:Number):Option (Value × Int):=zda N a0.Op a1 a2 a0.zF a0.Half
def z2x (N:Nat) (a0:zC) (a1:zA):Option (Int × zC):=
 cond (a1.Op==0) ((zkf N a0 a1.Place a1.zF).bind fun r1=>cond (r1.2 !=0) (some (r1.2,a0))
  (if 0≤a1.R then(if a1.R<(a0.Registers.length:Int)then((a0.Registers[a1.R.toNat]?).bind fun x2=>
  some (0,(⟨(a0.Registers.set a1.R.toNat r1.1),a0.Condition,a0.Storage,a0.At,a0.Stack,a0.Lines,a0.Status,a0.Exception,a0.Marks,a0.Steps⟩:zC)))else none)else none))
  (cond (a1.Op==1) (if 0≤a1.R then(if a1.R<(a0.Registers.length:Int)then((a0.Registers[a1.R.toNat]?).bind fun x3=>(zpg N x3 a1.zF a1.Half).bind fun r4=>
  cond (r4.2 !=0) (some (2,a0)) ((zdp a1.zF).bind fun r5=>(zd7 N a0 a1.Place r5).bind fun r6=>cond (r6.2 !=0) (some (r6.2,a0))
  ((zqp N a1.zF r4.1).bind fun r7=>(zht N a0.Storage r6.1 r7).bind fun r8=>
  some (0,(⟨a0.Registers,a0.Condition,r8,a0.At,a0.Stack,a0.Lines,a0.Status,a0.Exception,a0.Marks,a0.Steps⟩:zC)))))else none)else none) (cond (a1.Op==2)
  (if 0≤a1.R then(if a1.R<(a0.Registers.length:Int)then((a0.Registers[a1.R.toNat]?).bind fun x9=>
  some (0,(⟨(a0.Registers.set a1.R.toNat a1.Number),a0.Condition,a0.Storage,a0.At,a0.Stack,a0.Lines,a0.Status,a0.Exception,a0.Marks,a0.Steps⟩:zC)))else none)else none)
  (cond (a1.Op==3) (if 0≤a1.A then(if a1.A<(a0.Registers.length:Int)then((a0.Registers[a1.A.toNat]?).bind fun x10=>
  if 0≤a1.R then(if a1.R<(a0.Registers.length:Int)then((a0.Registers[a1.R.toNat]?).bind fun x11=>
  some (0,(⟨(a0.Registers.set a1.R.toNat x10),a0.Condition,a0.Storage,a0.At,a0.Stack,a0.Lines,a0.Status,a0.Exception,a0.Marks,a0.Steps⟩:zC)))else none)else none)else none)else none)
  (cond (a1.Op==5) (if 0≤a1.A then(if a1.A<(a0.Registers.length:Int)then((a0.Registers[a1.A.toNat]?).bind fun x12=>
  if 0≤a1.B then(if a1.B<(a0.Registers.length:Int)then((a0.Registers[a1.B.toNat]?).bind fun x13=>(zmt N x12 x13).bind fun r14=>
  (zk2 r14).bind fun r15=>
  some (0,(⟨a0.Registers,r15,a0.Storage,a0.At,a0.Stack,a0.Lines,a0.Status,a0.Exception,a0.Marks,a0.Steps⟩:zC)))else none)else none)else none)else none)
  (cond (a1.Op==21) (if 0≤a1.R then(if a1.R<(a0.Registers.length:Int)then((a0.Registers[a1.R.toNat]?).bind fun x16=>
  some (0,(⟨(a0.Registers.set a1.R.toNat (⟨a0.Exception,0⟩:Number)),a0.Condition,a0.Storage,a0.At,a0.Stack,a0.Lines,a0.Status,a0.Exception,a0.Marks,a0.Steps⟩:zC)))else none)else none)
  (cond (a1.Op==4) (cond a1.zO ((zkf N a0 a1.Place a1.Second).bind fun r17=>cond (r17.2 !=0) (some (r17.2,a0))
  (if 0≤a1.A then(if a1.A<(a0.Registers.length:Int)then((a0.Registers[a1.A.toNat]?).bind fun x18=>
  (zhk N (⟨a1.zM,a1.zF,false⟩:yB) x18 r17.1).bind fun r19=>cond (r19.2==20) (some (3,a0)) (cond (r19.2 !=0) (some (2,a0))
  (if 0≤a1.R then(if a1.R<(a0.Registers.length:Int)then((a0.Registers[a1.R.toNat]?).bind fun x20=>
  some (0,(⟨(a0.Registers.set a1.R.toNat (⟨r19.1.N,a1.zF.Scale⟩:Number)),a0.Condition,a0.Storage,a0.At,a0.Stack,a0.Lines,a0.Status,a0.Exception,a0.Marks,a0.Steps⟩:zC)))else none)else none)))else none)else none))
  (if 0≤a1.B then(if a1.B<(a0.Registers.length:Int)then((a0.Registers[a1.B.toNat]?).bind fun x21=>
  if 0≤a1.A then(if a1.A<(a0.Registers.length:Int)then((a0.Registers[a1.A.toNat]?).bind fun x22=>
  (zhk N (⟨a1.zM,a1.zF,false⟩:yB) x22 x21).bind fun r23=>cond (r23.2==20) (some (3,a0)) (cond (r23.2 !=0) (some (2,a0))
  (if 0≤a1.R then(if a1.R<(a0.Registers.length:Int)then((a0.Registers[a1.R.toNat]?).bind fun x24=>
  some (0,(⟨(a0.Registers.set a1.R.toNat (⟨r23.1.N,a1.zF.Scale⟩:Number)),a0.Condition,a0.Storage,a0.At,a0.Stack,a0.Lines,a0.Status,a0.Exception,a0.Marks,a0.Steps⟩:zC)))else none)else none)))else none)else none)else none)else none))
  (some (0,a0))))))))
def zf (N:Nat) (a0:zH) (a1:zC):Option (Int × Int × zC):=
 (idx a0.zB a1.At).bind fun x1=>cond (x1.Op==6) (cond ((zg .i64 x1.Mask a1.Condition) !=0) (some (x1.Target,0,a1))
  (some ((w6 (a1.At+1)),0,a1))) (cond (x1.Op==7) (if 0≤x1.A then(if x1.A<(a1.Registers.length:Int)then((a1.Registers[x1.A.toNat]?).bind fun x2=>
  if 0≤x1.B then(if x1.B<(a1.Registers.length:Int)then((a1.Registers[x1.B.toNat]?).bind fun x3=>(zmt N x2 x3).bind fun r4=>(zk2 r4).bind fun r5=>
  cond ((zg .i64 x1.Mask r5) !=0) (some (x1.Target,0,a1)) (some ((w6 (a1.At+1)),0,a1)))else none)else none)else none)else none) (cond (x1.Op==8)
  (some (x1.Target,0,a1)) (cond (x1.Op==18) (cond ((a1.Stack.length:Int)==6) (some (0,6,a1)) (cond (Nat.ble ((a1.Stack.length+([a1.At]:List Int).length)*8) zae)
  (some (x1.Target,0,(⟨a1.Registers,a1.Condition,a1.Storage,a1.At,(a1.Stack++([a1.At]:List Int)),a1.Lines,a1.Status,a1.Exception,a1.Marks,a1.Steps⟩:zC))) none))
  (cond (x1.Op==19) (cond ((a1.Stack.length:Int)==0)
  (some ((w6 (a1.At+1)),0,(⟨a1.Registers,a1.Condition,a1.Storage,a1.At,a1.Stack,a1.Lines,1,a1.Exception,a1.Marks,a1.Steps⟩:zC)))
  (if 0≤(w6 ((a1.Stack.length:Int)-1))then(if(w6 ((a1.Stack.length:Int)-1))<(a1.Stack.length:Int)then((a1.Stack[(w6 ((a1.Stack.length:Int)-1)).toNat]?).bind fun x6=>
  if 0≤(w6 ((a1.Stack.length:Int)-1))∧(w6 ((a1.Stack.length:Int)-1))≤(a1.Stack.length:Int)then(if 0≤(0:Int)∧(0:Int)≤(w6 ((a1.Stack.length:Int)-1))then(some ((w6 (x6+1)),0,(⟨a1.Registers,a1.Condition,a1.Storage,a1.At,((a1.Stack.drop ((0:Int).toNat)).take ((w6 ((a1.Stack.length:Int)-1)).toNat-(0:Int).toNat)),a1.Lines,a1.Status,a1.Exception,a1.Marks,a1.Steps⟩:zC)))else none)else none)else none)else none))
  (cond (x1.Op==20) (if 0≤x1.R then(if x1.R<(a1.Registers.length:Int)then((a1.Registers[x1.R.toNat]?).bind fun x7=>(zms N x7).bind fun r8=>
  (zbt r8 100 999).bind fun r9=>cond r9 (some (0,r8,a1)) (some (0,2,a1)))else none)else none) (cond (x1.Op==25) (cond (a1.Marks==300)
  (some ((w6 (a1.At+1)),0,(⟨a1.Registers,a1.Condition,a1.Storage,a1.At,a1.Stack,a1.Lines,3,a1.Exception,a1.Marks,a1.Steps⟩:zC)))
  (some ((w6 (a1.At+1)),0,(⟨a1.Registers,a1.Condition,a1.Storage,a1.At,a1.Stack,a1.Lines,a1.Status,a1.Exception,(w6 (a1.Marks+1)),a1.Steps⟩:zC))))
  (cond (x1.Op==26)
  (some ((w6 (a1.At+1)),0,(⟨a1.Registers,a1.Condition,a1.Storage,a1.At,a1.Stack,a1.Lines,1,a1.Exception,a1.Marks,a1.Steps⟩:zC)))
  ((cond (x1.Op==22) (some (x1.Op==22)) (cond (x1.Op==23) (some (x1.Op==23)) (some (x1.Op==24)))).bind fun q10=>cond q10 ((z4r N a1 x1).bind fun r11=>
  some ((w6 (a1.At+1)),r11.1,r11.2)) ((cond (x1.Op==14) (some (x1.Op==14)) (cond (x1.Op==15) (some (x1.Op==15)) (cond (x1.Op==16) (some (x1.Op==16))
  (some (x1.Op==17))))).bind fun q12=>cond q12 ((z4s N a1 x1).bind fun r13=>some ((w6 (a1.At+1)),r13.1,r13.2)) ((cond (x1.Op==9)
  (some (x1.Op==9)) (cond (x1.Op==10) (some (x1.Op==10)) (cond (x1.Op==11) (some (x1.Op==11)) (cond (x1.Op==12) (some (x1.Op==12))
  (some (x1.Op==13)))))).bind fun q14=>cond q14 ((z2y N a1 x1).bind fun r15=>some ((w6 (a1.At+1)),r15.1,r15.2))
  ((z2x N a1 x1).bind fun r16=>some ((w6 (a1.At+1)),r16.1,r16.2))))))))))))
def zwz (N:Nat) (a0:zH) (a1 a2:Int):Option Int:=zhn N a0 a1 a2
def zg8.b0 (N:Nat) (s2:Int) (b3:zH) (b4:zC) (b6:zC):Option (Round zC (Int × zH × zC × zC)):=
 (zwz N b3 b4.At s2).bind fun r1001=>cond (r1001 !=(-1))
  (some (.result (⟨b4.Registers,b4.Condition,b4.Storage,r1001,b4.Stack,b4.Lines,b4.Status,b4.Exception,b4.Marks,b4.Steps⟩:zC))) (cond ((b4.Stack.length:Int)==0)
  (some (.result (⟨b4.Registers,b4.Condition,b4.Storage,b4.At,b4.Stack,b4.Lines,2,b4.Exception,b4.Marks,b4.Steps⟩:zC)))
  ((idx b4.Stack (w6 ((b4.Stack.length:Int)-1))).bind fun x1002=>
  if 0≤(w6 ((b4.Stack.length:Int)-1))∧(w6 ((b4.Stack.length:Int)-1))≤(b4.Stack.length:Int)then(if 0≤(0:Int)∧(0:Int)≤(w6 ((b4.Stack.length:Int)-1))then(some (.again (s2,b3,(⟨b4.Registers,b4.Condition,b4.Storage,x1002,((b4.Stack.take (w6 ((b4.Stack.length:Int)-1)).toNat).drop (0:Int).toNat),b4.Lines,b4.Status,b4.Exception,b4.Marks,b4.Steps⟩:zC),b6)))else none)else none))
def zg8.r0 (N:Nat) (x:Int × zH × zC × zC):=zg8.b0 N x.1 x.2.1 x.2.2.1 x.2.2.2
def zg8 (N:Nat) (a0:zH) (a1:zC) (a2:Int):Option zC:=
 (zp (zg8.r0 N) N (a2,a0,(⟨a1.Registers,a1.Condition,a1.Storage,a1.At,a1.Stack,a1.Lines,a1.Status,a2,a1.Marks,a1.Steps⟩:zC),(⟨[],0,(⟨(⟨#[]⟩:ByteArray),[]⟩:Storage),0,[],[],0,0,0,0⟩:zC))).bind fun z2=>
  zbq z2 (fun z=>some z) (fun y1=>some y1.2.2.2)
def z1u (N:Nat) (a0:zH) (a1:zC):Option zC:=
 (zs1 a1).bind fun r1=>
  (zf N a0 (⟨r1.Registers,r1.Condition,r1.Storage,r1.At,r1.Stack,r1.Lines,r1.Status,r1.Exception,r1.Marks,(w6 (r1.Steps+1))⟩:zC)).bind fun r2=>
  cond (r2.2.1 !=0) ((zs1 a1).bind fun r3=>
  (zg8 N a0 (⟨r3.Registers,r3.Condition,r3.Storage,r3.At,r3.Stack,r3.Lines,r3.Status,r3.Exception,r3.Marks,(w6 (r3.Steps+1))⟩:zC) r2.2.1).bind fun r4=>
  (cond (r4.Status==0) (some (r4.Steps==3000)) (some false)).bind fun g5=>
  cond g5 (some (⟨r4.Registers,r4.Condition,r4.Storage,r4.At,r4.Stack,r4.Lines,3,r4.Exception,r4.Marks,r4.Steps⟩:zC)) (some r4)) (cond (r2.2.2.Status==0)
  (cond (r2.1==(a0.zB.length:Int))
  (some (⟨r2.2.2.Registers,r2.2.2.Condition,r2.2.2.Storage,r2.2.2.At,r2.2.2.Stack,r2.2.2.Lines,1,r2.2.2.Exception,r2.2.2.Marks,r2.2.2.Steps⟩:zC))
  ((cond (r2.2.2.Status==0) (some (r2.2.2.Steps==3000)) (some false)).bind fun g6=>
  cond g6 (some (⟨r2.2.2.Registers,r2.2.2.Condition,r2.2.2.Storage,r2.1,r2.2.2.Stack,r2.2.2.Lines,3,r2.2.2.Exception,r2.2.2.Marks,r2.2.2.Steps⟩:zC))
  (some (⟨r2.2.2.Registers,r2.2.2.Condition,r2.2.2.Storage,r2.1,r2.2.2.Stack,r2.2.2.Lines,r2.2.2.Status,r2.2.2.Exception,r2.2.2.Marks,r2.2.2.Steps⟩:zC))))
  ((cond (r2.2.2.Status==0) (some (r2.2.2.Steps==3000)) (some false)).bind fun g7=>
  cond g7 (some (⟨r2.2.2.Registers,r2.2.2.Condition,r2.2.2.Storage,r2.2.2.At,r2.2.2.Stack,r2.2.2.Lines,3,r2.2.2.Exception,r2.2.2.Marks,r2.2.2.Steps⟩:zC))
  (some r2.2.2)))
theorem z0t (N:Nat) (l:List Int) (h:l.length<N) (hl:l.length<1000000000):za4 N l=some (zcu l):=by
 unfold za4
 have:=zcm (f:=za4.r0 N) (fun i=>(l,(l.length:Int),(i:Int))) (fun i=>(l[i]?).bind fun x=>if x=0 then none else some x) l.length
  (fun i hi=>by
   have hx:=lge hi;simp only [za4.r0,za4.b0,zau,hx,obs,dct (show(i:Int)<(l.length:Int)by omega),ctr]
   by_cases h0:l[i]=0
   · simp only [h0,bsf,cfa,if_true];rw [w6e];rfl
   · simp only [h0,if_false];rw [show(l[i] !=0)=true by simpa using h0];rfl)
  (by simp only [za4.r0,za4.b0,dcf (show ¬(l.length:Int)<(l.length:Int)by omega),cfa]) h
 simp only [nc0]at this
 rw [this,zny,←ztc]
 simp only [obs]
 cases l.findSome? (fun x=>if x=0 then none else some x)<;>rfl
theorem zqc (N:Nat) (l:List Int) (h:l.length<N) (hl:l.length<1000000000):zab N l=some (zcu l):=by
 unfold zab
 have:=zcm (f:=zab.r0 N) (fun i=>(l,(l.length:Int),(i:Int))) (fun i=>(l[i]?).bind fun x=>if x=0 then none else some x) l.length
  (fun i hi=>by
   have hx:=lge hi;simp only [zab.r0,zab.b0,zau,hx,obs,dct (show(i:Int)<(l.length:Int)by omega),ctr]
   by_cases h0:l[i]=0
   · simp only [h0,bsf,cfa,if_true];rw [w6e];rfl
   · simp only [h0,if_false];rw [show(l[i] !=0)=true by simpa using h0];rfl)
  (by simp only [zab.r0,zab.b0,dcf (show ¬(l.length:Int)<(l.length:Int)by omega),cfa]) h
 simp only [nc0]at this
 rw [this,zny,←ztc]
 simp only [obs]
 cases l.findSome? (fun x=>if x=0 then none else some x)<;>rfl
def inB (n lo hi:Int):Bool:=decide (lo≤n)&&decide (n≤hi)
theorem zpq (n lo hi:Int):za9 n lo hi=some (inB n lo hi):=by
 unfold za9 inB
 cases decide (lo≤n)<;>rfl
theorem z4y (n lo hi:Int):ze2 n lo hi=some (inB n lo hi):=by
 unfold ze2 inB
 cases decide (lo≤n)<;>rfl
theorem zma (n lo hi:Int):zbt n lo hi=some (inB n lo hi):=by
 unfold zbt inB
 cases decide (lo≤n)<;>rfl
theorem zus (b:Bool) (e:Int):zct b e=some (cond b e 0):=by cases b<;>rfl
theorem zqd (b:Bool) (e:Int):za5 b e=some (cond b e 0):=by cases b<;>rfl
theorem zvn (b:Bool):zwt b=some (cond b 1 0):=by cases b<;>rfl
theorem zru (m:zK):∃e,zey m=some e∧zns m=some e∧(e=0→2≤m.Registers∧m.Registers≤8):=by
 refine⟨cond (!inB m.Registers 2 8) 3 0,?_,?_,?_⟩
 · simp only [zey,zpq,zus,obs]
 · simp only [zns,zma,obs];cases inB m.Registers 2 8<;>rfl
 · intro h;cases hb:inB m.Registers 2 8 with
   | false=>rw [hb]at h;cases h
   | true=>simpa [inB]using hb
def zce (t:DataType):Int:=
 if t.Kind=0 then(if inB t.Length 1 256 then(if t.Scale=0 then 0 else 3)else 18)
 else if t.Kind=1∨t.Kind=2 then(if inB t.Length 1 15 then(if inB t.Scale 0 t.Length then 0 else 3)else 18)
 else if t.Kind=3 then(if t.Length=4∨t.Length=9 then(if inB t.Scale 0 t.Length then 0 else 3)else 18)
 else if t.Kind=4 then(if t.Length=0 then(if t.Scale=0 then 0 else 3)else 18)
 else 4
theorem zajr (a b:Bool) (x y:Int) (hx:x≠0) (hy:y≠0):zcu [cond a x 0,cond b y 0]=cond a x (cond b y 0):=by
 cases a<;>cases b<;>simp [zcu,hx,hy]
theorem znw (N:Nat) (hN:10<N) (t:DataType):zax N t=some (zce t):=by
 have f2:∀a b:Int,zab N [a,b]=some (zcu [a,b]):=fun a b=>zqc N _ (by simp;omega) (by simp)
 unfold zax zce
 simp only [z4y,zqd,f2,obs,zajr _ _ 18 3 (by decide) (by decide)]
 by_cases h0:t.Kind=0
 · simp only [h0,bst,ctr,if_true];cases inB t.Length 1 256<;>by_cases hs:t.Scale=0<;>simp [zbx,hs]
 · simp only [beq_eq_false_iff_ne.2 h0,h0,cfa,if_false]
   by_cases h1:t.Kind=1
   · simp only [h1,bst,ctr,true_or,if_true,obs];cases inB t.Length 1 15<;>cases inB t.Scale 0 t.Length<;>simp
   · by_cases h2:t.Kind=2
     · simp only [h2,h1];cases inB t.Length 1 15<;>cases inB t.Scale 0 t.Length<;>simp
     · by_cases h3:t.Kind=3
       · simp only [h3]
         by_cases h4:t.Length=4<;>by_cases h5:t.Length=9<;>cases inB t.Scale 0 t.Length<;>simp [zbx,h4,h5]
       · by_cases h4:t.Kind=4
         · simp only [h4]
           by_cases h5:t.Length=0<;>by_cases h6:t.Scale=0<;>simp [zbx,h5,h6]
         · simp [zbx,h1,h2,h3,h4]
theorem zaar (k:Int):zpf k=some (inB k 1 3):=by simp only [zpf,zma,obs]
theorem zagp (t:DataType):zw0 t=some (zce t):=znw 100 (by decide) t
theorem zay {n lo hi:Int}:inB n lo hi=true↔lo≤n∧n≤hi:=by simp [inB]
theorem zl6 {t:DataType} (h:zce t=0):(t.Kind=0∧1≤t.Length∧t.Length≤256)∨((t.Kind=1∨t.Kind=2)∧1≤t.Length∧t.Length≤15)∨(t.Kind=3∧(t.Length=4∨t.Length=9))∨(t.Kind=4∧t.Length=0):=by
 unfold zce at h
 split at h
 · rename_i h0;split at h
   · rename_i h1;exact .inl ⟨h0,(zay.1 h1).1,(zay.1 h1).2⟩
   · cases h
 · split at h
   · rename_i h0;split at h
     · rename_i h1;exact .inr (.inl ⟨h0,(zay.1 h1).1,(zay.1 h1).2⟩)
     · cases h
   · split at h
     · rename_i h0;split at h
       · rename_i h1;exact .inr (.inr (.inl ⟨h0,h1⟩))
       · cases h
     · split at h
       · rename_i h0;split at h
         · rename_i h1;exact .inr (.inr (.inr ⟨h0,h1⟩))
         · cases h
       · cases h
def szE (t:DataType):Int:=if t.Kind=1 then t.Length/2+1 else if t.Kind=3 then(if t.Length=9 then 4 else 2)else if t.Kind=4 then 16 else t.Length
theorem zh4 {t:DataType} (h:zce t=0):0<szE t∧szE t≤256:=by
 unfold szE
 rcases zl6 h with⟨h0,h1,h2⟩|⟨h0|h0,h1,h2⟩|⟨h0,h1|h1⟩|⟨h0,h1⟩<;>simp only [h0]<;>simp<;>omega
theorem zmr {t:DataType} (h:zce t=0):zdp t=some (szE t):=by
 unfold zdp szE
 rcases zl6 h with⟨h0,h1,h2⟩|⟨h0|h0,h1,h2⟩|⟨h0,h1|h1⟩|⟨h0,h1⟩<;>simp only [h0,h1,zbx,zvn]<;>simp
 · rw [tde,w6e (n:=t.Length/2),w6e]
 · decide
 · decide
theorem zy4 {t:DataType} (h:zce t=0):zg9 t=some (szE t):=by
 unfold zg9 szE
 rcases zl6 h with⟨h0,h1,h2⟩|⟨h0|h0,h1,h2⟩|⟨h0,h1|h1⟩|⟨h0,h1⟩<;>simp only [h0,h1,zbx]<;>simp
 · rw [tde,w6e (n:=t.Length/2),w6e]
 · decide
 · decide
theorem z29 (N:Nat) (hN:10<N) {t:DataType} (h:zce t=0):zfm N t=some (szE t):=by
 unfold zfm zfr
 rw [znw N hN,h]
 simp [zy4 h]
structure StoOk (s:Storage):Prop where
 le:s.Bytes.size≤1024
 quad:s.Bytes.size%16=0
def ze7 (s:Storage) (a:Int):Bool:=decide (0≤a)&&(decide (a%16=0)&&decide (a<(s.Bytes.size:Int)))
theorem z9h (s:Storage) (a:Int):zer s a=some (ze7 s a):=by
 unfold zer ze7
 by_cases h:0≤a
 · rw [tme h];simp only [ge_iff_le,h,decide_true,ctr,obs,zbx,Bool.true_and];cases decide (a%16=0)<;>rfl
 · simp [h]
theorem z9a {s:Storage} (ok:StoOk s) (a:Int):zkh s a=some (ze7 s a):=by
 have h1:=ok.le
 have h2:=ok.quad
 unfold zkh ze7
 rw [w6e,zma]
 simp only [obs]
 by_cases h:0≤a
 · rw [tme h];simp only [inB,h,decide_true,Bool.true_and,zbx]
   by_cases h3:a%16=0
   · have e:decide (a≤(s.Bytes.size:Int)-16)=decide (a<(s.Bytes.size:Int)):=by
      by_cases h4:a<(s.Bytes.size:Int)
      · rw [dct h4];exact dct (by omega)
      · rw [dcf h4];exact dcf (by omega)
     simp only [h3,decide_true,Bool.true_and,e];cases decide (a<(s.Bytes.size:Int))<;>rfl
   · simp only [h3,decide_false,Bool.false_and];cases decide (a≤(s.Bytes.size:Int)-16)<;>rfl
 · simp [inB,h]
def zc8 (s:Storage) (p:zN) (n:Int):Bool:=if p.Based then ze7 s p.Pointer&&inB p.Offset 0 256 else inB p.Offset 0 ((s.Bytes.size:Int)-n)
theorem z6v {s:Storage} (ok:StoOk s) (N:Nat) (hN:10<N) (p:zN) {t:DataType} (h:zce t=0):zef N s p t=some (zc8 s p (szE t)):=by
 obtain⟨h1,h2⟩:=zh4 h
 have h3:=ok.le
 unfold zef zc8
 rw [z9h,z29 N hN h,zpq]
 simp only [obs]
 rw [w6e]
 simp only [zpq,obs]
 cases p.Based<;>cases ze7 s p.Pointer<;>simp
theorem z52 {s:Storage} (ok:StoOk s) {c:zH} (hc:c.Storage=s) (p:zN) (hp: -9223372036854775808≤p.Offset∧p.Offset≤9223372036854775807) {t:DataType} (h:zce t=0):zh9 c p (szE t)=some (zc8 s p (szE t)):=by
 obtain⟨h1,h2⟩:=zh4 h
 have h3:=ok.le
 unfold zh9 zc8 zod
 rw [hc]
 simp only [z9a ok,zma,obs]
 cases p.Based with
 | true=>cases ze7 s p.Pointer<;>simp
 | false=>
  simp only [cfa]
  by_cases h4:inB p.Offset 0 (s.Bytes.size:Int)=true
  · obtain⟨h5,h6⟩:=zay.1 h4;rw [w6e];simp only [h4,ctr,obs,Bool.false_eq_true,if_false]
    congr 1
    unfold inB;simp only [h5,decide_true,Bool.true_and,show(0:Int)≤szE t by omega]
    by_cases h7:szE t≤(s.Bytes.size:Int)-p.Offset
    · rw [dct h7];exact(dct (by omega)).symm
    · rw [dcf h7];exact(dcf (by omega)).symm
  · have e:inB p.Offset 0 (s.Bytes.size:Int)=false:=by simpa using h4
    simp only [e,cfa,obs,Bool.false_eq_true,if_false]
    congr 1
    cases h5:inB p.Offset 0 ((s.Bytes.size:Int)-szE t)with
    | false=>rfl
    | true=>
     obtain⟨h6,h7⟩:=zay.1 h5;exact absurd (zay.2 ⟨h6,by omega⟩) h4
def zrf (n:Number):Int:=cond (inB n.N (-999999999999999) 999999999999999&&inB n.Scale 0 15) 0 3
theorem znf (n:Number):zbl n=some (zrf n):=by
 unfold zbl zrf
 simp only [z4y,zqd,obs]
 cases inB n.N (-999999999999999) 999999999999999<;>cases inB n.Scale 0 15<;>rfl
theorem zaci (n:Number):zjb n=some (zrf n):=by
 have w0:w6 (3*0)=0:=by decide
 have w1:w6 (3*1)=3:=by decide
 unfold zjb zrf
 simp only [zma,zvn,obs]
 cases inB n.N (-999999999999999) 999999999999999<;>cases inB n.Scale 0 15<;>simp [w0,w1,zvn]<;>decide
def zafy (op:Int) (ins:Bool):Option zU:=
 (idx zaa7 op).bind fun x1=>(cond (op==4) (some ins) (some false)).bind fun g2=>
  cond g2 (some (⟨(orI .i64 (orI .i64 (z90 .i64 x1.fields 4) 8) 64),x1.types⟩:zU)) (some x1)
theorem zajs (x:zA):zck x=zafy x.Op x.zO:=rfl
def z97 (op:Int) (ins:Bool):Option zR:=zhw ⟨op,0,0,0,0,⟨false,0,0⟩,⟨false,0,0⟩,⟨0,0,0⟩,⟨0,0,0⟩,false,ins,⟨0,0⟩,⟨#[]⟩,⟨#[]⟩,0,0,0,0⟩
theorem zabw (x:zA):zhw x=z97 x.Op x.zO:=rfl
structure Agree (f:zU) (u:zR):Prop where
 R:(zg .i64 f.fields 1 !=0)=u.R
 A:(zg .i64 f.fields 2 !=0)=u.A
 B:(zg .i64 f.fields 4 !=0)=u.B
 Place:(zg .i64 f.fields 8 !=0)=u.Place
 From:(zg .i64 f.fields 16 !=0)=u.From
 zF:(zg .i64 f.fields 32 !=0)=(u.zF !=0)
 Second:(zg .i64 f.fields 64 !=0)=(u.Second !=0)
 Half:(zg .i64 f.fields 128 !=0)=u.Half
 Number:(zg .i64 f.fields 256 !=0)=u.Number
 Text:(zg .i64 f.fields 512 !=0)=u.Text
 Other:(zg .i64 f.fields 1024 !=0)=u.Other
 Mask:(zg .i64 f.fields 2048 !=0)=u.Mask
 Target:(zg .i64 f.fields 4096 !=0)=u.Target
 Pointer:(zg .i64 f.fields 8192 !=0)=u.Pointer
 Source:(zg .i64 f.fields 16384 !=0)=u.Source
 Calc:(zg .i64 f.fields 32768 !=0)=u.zM
 class1:u.zF=0∨u.zF=f.types
 class2:u.Second=0∨u.Second=f.types
 cls:f.types=0∨f.types=1∨f.types=2∨f.types=3
def z8f (f:zU) (u:zR):Bool:=
 ((zg .i64 f.fields 1 !=0)==u.R)&&(((zg .i64 f.fields 2 !=0)==u.A)&&(((zg .i64 f.fields 4 !=0)==u.B)&&(((zg .i64 f.fields 8 !=0)==u.Place)&&(((zg .i64 f.fields 16 !=0)==u.From)&&
 (((zg .i64 f.fields 32 !=0)==(u.zF !=0))&&(((zg .i64 f.fields 64 !=0)==(u.Second !=0))&&(((zg .i64 f.fields 128 !=0)==u.Half)&&(((zg .i64 f.fields 256 !=0)==u.Number)&&(((zg .i64 f.fields 512 !=0)==u.Text)&&
 (((zg .i64 f.fields 1024 !=0)==u.Other)&&(((zg .i64 f.fields 2048 !=0)==u.Mask)&&(((zg .i64 f.fields 4096 !=0)==u.Target)&&(((zg .i64 f.fields 8192 !=0)==u.Pointer)&&(((zg .i64 f.fields 16384 !=0)==u.Source)&&
 (((zg .i64 f.fields 32768 !=0)==u.zM)&&((u.zF==0||u.zF==f.types)&&((u.Second==0||u.Second==f.types)&&(f.types==0||(f.types==1||(f.types==2||f.types==3))))))))))))))))))))
theorem zafh {f:zU} {u:zR} (h:z8f f u=true):Agree f u:=by
 simp only [z8f,Bool.and_eq_true,beq_iff_eq,Bool.or_eq_true]at h
 obtain⟨h1,h2,h3,h4,h5,h6,h7,h8,h9,h10,h11,h12,h13,h14,h15,h16,h17,h18,h19⟩:=h
 exact⟨h1,h2,h3,h4,h5,h6,h7,h8,h9,h10,h11,h12,h13,h14,h15,h16,h17,h18,h19⟩
def opOk (op:Int) (ins:Bool):Bool:=match zafy op ins,z97 op ins with
 | some f,some u=>(z8f f u&&((!u.From||u.Second !=0)&&(!u.Place||cond (op==4) (u.Second !=0) (u.zF !=0))))&&(cond (op==4) (u.R&&u.A&&u.zM&&(u.Place==ins)&&(u.Second !=0)==ins) (u.zM==false))
 | _,_=>false
theorem zai9:((List.range 27).all fun k=>opOk (k:Int) true&&opOk (k:Int) false)=true:=by kernel_rfl
theorem zyb (x:zA) (h:inB x.Op 0 26=true):∃f u,zck x=some f∧zhw x=some u∧Agree f u∧(x.Op=4→u.Place=x.zO)∧(u.From=true→u.Second≠0)∧(u.Place=true→if x.Op=4 then u.Second≠0 else u.zF≠0):=by
 obtain⟨h1,h2⟩:=zay.1 h
 obtain⟨k,hk⟩:∃k:Nat,x.Op=(k:Int):=⟨x.Op.toNat,by omega⟩
 have hlt:k<27:=by omega
 have h3:=List.all_eq_true.1 zai9 k (by simpa using hlt)
 have h4:opOk x.Op x.zO=true:=by
  rw [hk];cases x.zO
  · exact((Bool.and_eq_true _ _).mp h3).2
  · exact((Bool.and_eq_true _ _).mp h3).1
 rw [zajs,zabw]
 unfold opOk at h4
 split at h4
 · rename_i f u hf hu;obtain⟨h5,h6⟩:=(Bool.and_eq_true _ _).mp h4;simp only [Bool.and_eq_true]at h5;obtain⟨h5,h8,h9⟩:=h5;refine⟨f,u,hf,hu,zafh h5,fun h7=> ?_,fun h7=> ?_,fun h7=> ?_⟩
   · rw [h7]at h6;simp only [bst,ctr,Bool.and_eq_true,beq_iff_eq]at h6;exact h6.1.2
   · rw [h7]at h8;simpa using h8
   · rw [h7]at h9;split
     · rename_i h10;rw [h10]at h9;simpa using h9
     · rename_i h10;rw [zbx,dcf h10]at h9;simpa using h9
 · cases h4
theorem zu4 (a b:Int):(a==b)= !(a !=b):=by simp [bne]
def znj (x:zA) (u:zR):Bool:=
 (!u.R&&x.R !=0)||((!u.A&&x.A !=0)||((!u.B&&x.B !=0)||((!u.zM&&x.zM !=0)||((!u.Place&& !(!x.Place.Based&&(x.Place.Pointer==0&&x.Place.Offset==0)))||
 ((!u.From&& !(!x.From.Based&&(x.From.Pointer==0&&x.From.Offset==0)))||((u.zF==0&& !(x.zF.Kind==0&&(x.zF.Length==0&&x.zF.Scale==0)))||((u.Second==0&& !(x.Second.Kind==0&&(x.Second.Length==0&&x.Second.Scale==0)))||
 ((!u.Half&&x.Half)||((x.Op !=4&&x.zO)||((!u.Number&& !(x.Number.N==0&&x.Number.Scale==0))||((!u.Text&& !(x.Text.toList==[]))||((!u.Other&& !(x.Other.toList==[]))||
 ((!u.Mask&&x.Mask !=0)||((!u.Target&&x.Target !=0)||((!u.Pointer&&x.Pointer !=0)||((!u.Source&&x.Source !=0)||((!x.Place.Based&&x.Place.Pointer !=0)||(!x.From.Based&&x.From.Pointer !=0))))))))))))))))))
theorem orB (a b:Bool):(cond a (some true) (some b))=some (a||b):=by cases a<;>rfl
theorem zm1 (a b:Bool):(cond a (some b) (some false))=some (a&&b):=by cases a<;>rfl
theorem zaem (x:zA) (u:zR):zp4 x u=some (znj x u):=by
 unfold zp4 znj
 have e:(⟨#[]⟩:ByteArray).toList=[]:=by kernel_rfl
 simp only [zm1,orB,obs,zdq,Bool.and_true,e,Bool.or_assoc,beq_false]
def zq5 (p:zN) (b:Bool):zN:=cond b (cond p.Based p ⟨p.Based,0,p.Offset⟩) ⟨false,0,0⟩
theorem zac3 (p:zN) (b:Bool):zim p b=some (zq5 p b):=by
 unfold zim zq5
 cases b<;>cases p.Based<;>rfl
theorem zamf (k v fl:Int):zdg k v fl=some (cond (zg .i64 fl k !=0) v 0):=by
 unfold zdg
 rw [zu4]
 cases(zg .i64 fl k !=0)<;>rfl
def z40 (x:zA) (u:zR):zA:=
 ⟨x.Op,cond u.R x.R 0,cond u.A x.A 0,cond u.B x.B 0,cond u.zM x.zM 0,zq5 x.Place u.Place,zq5 x.From u.From,cond (u.zF !=0) x.zF ⟨0,0,0⟩,cond (u.Second !=0) x.Second ⟨0,0,0⟩,
  cond x.Half u.Half false,cond x.zO (x.Op==4) false,cond u.Number x.Number ⟨0,0⟩,cond u.Text x.Text ⟨#[]⟩,cond u.Other x.Other ⟨#[]⟩,cond u.Mask x.Mask 0,cond u.Target x.Target 0,cond u.Pointer x.Pointer 0,cond u.Source x.Source 0⟩
theorem zahf {x:zA} {f:zU} {u:zR} (hf:zck x=some f) (ag:Agree f u):zkw x=some (z40 x u):=by
 have b2:∀a b:Bool,(cond a (some b) (some false))=some (cond a b false):=fun a b=>by cases a<;>rfl
 unfold zkw z40
 simp only [hf,zamf,zac3,b2,obs,zu4 (zg .i64 f.fields 32),zu4 (zg .i64 f.fields 64),zu4 (zg .i64 f.fields 256),zu4 (zg .i64 f.fields 512),zu4 (zg .i64 f.fields 1024),
  ag.R,ag.A,ag.B,ag.Place,ag.From,ag.zF,ag.Second,ag.Half,ag.Number,ag.Text,ag.Other,ag.Mask,ag.Target,ag.Pointer,ag.Source,ag.Calc]
 cases(u.zF !=0)<;>cases(u.Second !=0)<;>cases u.Number<;>cases u.Text<;>cases u.Other<;>rfl
theorem zalv (b:Bool) (n:Int):(!(cond b n 0==n))=(!b&&n !=0):=by
 cases b
 · by_cases h:n=0
   · simp [h]
   · simp [h,zbx,zde,Ne.symm h]
 · simp
theorem bbeq (a b:ByteArray):(a==b)=decide (a=b):=by
 cases a with|mk x=>
 cases b with|mk y=>
 show ByteArray.beq _ _=_
 unfold ByteArray.beq
 by_cases h:x=y
 · simp [h]
 · simp [h]
theorem zalu (b:Bool) (t:ByteArray):(!(cond b t (⟨#[]⟩:ByteArray)==t))=(!b&& !(t.toList==[])):=by
 rw [bbeq]
 cases b
 · simp only [cfa,Bool.not_false,Bool.true_and]
   congr 1
   rw [Lib.toList_data]
   by_cases h:t=⟨#[]⟩
   · subst h;rfl
   · rw [dcf (Ne.symm h)]
     symm
     rw [beq_eq_false_iff_ne];intro hh;apply h;cases t with
     | mk d=>simp at hh;rw [hh]
 · simp
theorem zalx (a b:Bool):(!(cond a b false==a))=(!b&&a):=by cases a<;>cases b<;>rfl
theorem zalw (a:Bool) (op:Int):(!(cond a (op==4) false==a))=(op !=4&&a):=by
 cases a
 · simp
 · simp [bne]
theorem zafr (p:zN) (b r:Bool):(!((zq5 p b).Based==p.Based)||(!((zq5 p b).Pointer==p.Pointer)||(!((zq5 p b).Offset==p.Offset)||r)))=
 ((!b&& !(!p.Based&&(p.Pointer==0&&p.Offset==0)))||((!p.Based&&p.Pointer !=0)||r)):=by
 obtain⟨ba,pt,of⟩:=p
 cases b<;>cases ba<;>by_cases h1:pt=0<;>by_cases h2:of=0<;>simp [zq5,zbx,zde,h1,h2,eq_comm (a:=(0:Int))]
theorem zafs (t:DataType) (b:Int) (r:Bool):(!((cond (b !=0) t ⟨0,0,0⟩).Kind==t.Kind)||(!((cond (b !=0) t ⟨0,0,0⟩).Length==t.Length)||(!((cond (b !=0) t ⟨0,0,0⟩).Scale==t.Scale)||r)))=
 ((b==0&& !(t.Kind==0&&(t.Length==0&&t.Scale==0)))||r):=by
 obtain⟨k,l,s⟩:=t
 by_cases h0:b=0<;>by_cases h1:k=0<;>by_cases h2:l=0<;>by_cases h3:s=0<;>simp [zbx,zde,h0,h1,h2,h3,eq_comm (a:=(0:Int))]
theorem zalt (t:Number) (b r:Bool):(!((cond b t ⟨0,0⟩).N==t.N)||(!((cond b t ⟨0,0⟩).Scale==t.Scale)||r))=((!b&& !(t.N==0&&t.Scale==0))||r):=by
 obtain⟨n,s⟩:=t
 cases b<;>by_cases h1:n=0<;>by_cases h2:s=0<;>simp [zbx,zde,h1,h2,eq_comm (a:=(0:Int))]
theorem zaa3 (x:zA) (u:zR) (r2:zA) (h:r2=z40 x u):
 (!(zdq [(r2.Op==x.Op),(r2.R==x.R),(r2.A==x.A),(r2.B==x.B),(r2.zM==x.zM),(r2.Place.Based==x.Place.Based),(r2.Place.Pointer==x.Place.Pointer),(r2.Place.Offset==x.Place.Offset),(r2.From.Based==x.From.Based),(r2.From.Pointer==x.From.Pointer),(r2.From.Offset==x.From.Offset),(r2.zF.Kind==x.zF.Kind),(r2.zF.Length==x.zF.Length),(r2.zF.Scale==x.zF.Scale),(r2.Second.Kind==x.Second.Kind),(r2.Second.Length==x.Second.Length),(r2.Second.Scale==x.Second.Scale),(r2.Half==x.Half),(r2.zO==x.zO),(r2.Number.N==x.Number.N),(r2.Number.Scale==x.Number.Scale),(r2.Text==x.Text),(r2.Other==x.Other),(r2.Mask==x.Mask),(r2.Target==x.Target),(r2.Pointer==x.Pointer),(r2.Source==x.Source)]))=znj x u:=by
 subst h
 simp only [zdq,Bool.not_and,z40]
 rw [zafr x.Place,zafr x.From,zafs x.zF,zafs x.Second,zalt x.Number]
 simp only [zalv,zalu,zalx,zalw,bst,bnt,Bool.false_or,Bool.or_false,znj,bne]
 ac_rfl
def zd5 (t:DataType) (c:Int):Int:=if c=0 then 0 else if zce t=0 then(if(c=1∧¬(1≤t.Kind∧t.Kind≤3))∨(c=2∧t.Kind≠0)∨(c=3∧t.Kind=4)then 17 else 0)else zce t
theorem znq {t:DataType} {c:Int} (h:zd5 t c=0) (hc:c≠0):zce t=0:=by
 unfold zd5 at h
 rw [ifn hc]at h
 by_cases h0:zce t=0
 · exact h0
 · rw [ifn h0]at h;exact absurd h h0
theorem z19 (N:Nat) (hN:10<N) (t:DataType) (c:Int) (hc:c=1∨c=2∨c=3):zgd N t c=some (zd5 t c):=by
 have f2:∀a b:Int,za4 N [a,b]=some (zcu [a,b]):=fun a b=>z0t N _ (by simp;omega) (by simp)
 unfold zgd zd5
 rw [znw N hN]
 simp only [zus,f2,zm1,orB,obs,zbx,zde]
 have hc0:c≠0:=by omega
 rw [ifn hc0]
 by_cases h:zce t=0
 · rw [ifp h,h];simp only [zcu,if_true];rcases zl6 h with⟨h0,_⟩|⟨h0|h0,_⟩|⟨h0,_⟩|⟨h0,_⟩<;>rcases hc with rfl|rfl|rfl<;>simp [h0]
 · rw [ifn h];simp only [zcu,h,if_false]
theorem z1s (t:DataType) (c:Int) (hc:c=0∨c=1∨c=2∨c=3):zoc t c=some (zd5 t c):=by
 unfold zoc zd5
 rw [zagp]
 simp only [zaar,zm1,orB,obs,zbx,zde]
 by_cases hc0:c=0
 · simp [hc0]
 · rw [ifn hc0];simp only [hc0,decide_false,cfa]
   by_cases h:zce t=0
   · rw [ifp h,h];rcases zl6 h with⟨h0,_⟩|⟨h0|h0,_⟩|⟨h0,_⟩|⟨h0,_⟩<;>rcases hc with rfl|rfl|rfl|rfl<;>first|exact absurd rfl hc0|simp [h0,inB]
   · rw [ifn h];simp [h]
theorem zaew (N:Nat) (hN:10<N) {x:zA} {f:zU} {u:zR} (ag:Agree f u):zh7 N x f=some (zcu [zd5 x.zF u.zF,zd5 x.Second u.Second]):=by
 have w0:∀t,zd5 t 0=0:=fun t=>by simp [zd5]
 have hcls:∀c,c≠0→(c=0∨c=f.types)→c=f.types∧(f.types=1∨f.types=2∨f.types=3):=by
  intro c h0 h1;have:=ag.cls;omega
 have eta:∀t:DataType,(⟨t.Kind,t.Length,t.Scale⟩:DataType)=t:=fun t=>rfl
 unfold zh7
 rw [ag.zF,ag.Second]
 by_cases h1:u.zF=0
 · by_cases h2:u.Second=0
   · simp [h1,h2,w0,zcu]
   · obtain⟨e2,c2⟩:=hcls _ h2 ag.class2;have ht:=fun t=>z19 N hN t f.types c2;have h0:f.types≠0:=by omega
     simp only [eta,ht,h1,e2,w0]
     by_cases h3:zd5 x.Second f.types=0<;>simp [h3,h0,zcu,zde]
 · obtain⟨e1,c1⟩:=hcls _ h1 ag.class1;have ht:=fun t=>z19 N hN t f.types c1;have h0:f.types≠0:=by omega
   by_cases h2:u.Second=0
   · simp only [eta,ht,h2,e1,w0]
     by_cases h3:zd5 x.zF f.types=0<;>simp [h3,h0,zcu,zde]
   · obtain⟨e2,c2⟩:=hcls _ h2 ag.class2;simp only [eta,ht,e2,e1]
     by_cases h3:zd5 x.zF f.types=0<;>by_cases h4:zd5 x.Second f.types=0<;>simp [h3,h4,h0,zcu,zde]
def znb (x:zA) (u:zR):List Int:=cond u.R [x.R] []++(cond u.A [x.A] []++cond u.B [x.B] [])
theorem zahe (n:Nat) {x:zA} {f:zU} {u:zR} (hf:zck x=some f) (ag:Agree f u):zah (n+10) x=some (znb x u):=by
 have s0:w6 (1*2^(min ((0:Int).toNat) 64))=1:=by decide
 have s1:w6 (1*2^(min ((1:Int).toNat) 64))=2:=by decide
 have s2:w6 (1*2^(min ((2:Int).toNat) 64))=4:=by decide
 have a0:w6 (0+1)=1:=by decide
 have a1:w6 (1+1)=2:=by decide
 have a2:w6 (2+1)=3:=by decide
 have rm:∀k:Nat,k≤3→Nat.ble (k*8) zae=true:=fun k hk=>Nat.ble_eq_true_of_le (by unfold zae;omega)
 unfold zah
 rw [hf]
 simp only [obs]
 have i0:∀l,zah.r0 (n+10) (l,f.fields,[x.R,x.A,x.B],(([x.R,x.A,x.B]:List Int).length:Int),0)=some (.again (cond u.R (l++[x.R]) l,f.fields,[x.R,x.A,x.B],(([x.R,x.A,x.B]:List Int).length:Int),1))∨l.length>2:=by
  intro l
  by_cases hl:l.length>2
  · exact .inr hl
  · left;simp only [zah.r0,zah.b0,s0,a0,ag.R];have:=rm (l.length+1) (by omega);cases u.R<;>simp [this]
 have i1:∀l,zah.r0 (n+10) (l,f.fields,[x.R,x.A,x.B],(([x.R,x.A,x.B]:List Int).length:Int),1)=some (.again (cond u.A (l++[x.A]) l,f.fields,[x.R,x.A,x.B],(([x.R,x.A,x.B]:List Int).length:Int),2))∨l.length>2:=by
  intro l
  by_cases hl:l.length>2
  · exact .inr hl
  · left;simp only [zah.r0,zah.b0,s1,a1,ag.A];have:=rm (l.length+1) (by omega);cases u.A<;>simp [this]
 have i2:∀l,zah.r0 (n+10) (l,f.fields,[x.R,x.A,x.B],(([x.R,x.A,x.B]:List Int).length:Int),2)=some (.again (cond u.B (l++[x.B]) l,f.fields,[x.R,x.A,x.B],(([x.R,x.A,x.B]:List Int).length:Int),3))∨l.length>2:=by
  intro l
  by_cases hl:l.length>2
  · exact .inr hl
  · left;simp only [zah.r0,zah.b0,s2,a2,ag.B];have:=rm (l.length+1) (by omega);cases u.B<;>simp [this]
 have i3:∀l,zah.r0 (n+10) (l,f.fields,[x.R,x.A,x.B],(([x.R,x.A,x.B]:List Int).length:Int),3)=some (.leave (l,f.fields,[x.R,x.A,x.B],(([x.R,x.A,x.B]:List Int).length:Int),3)):=by
  intro l;simp [zah.r0,zah.b0]
 have l1:(cond u.R ([]++[x.R]) ([]:List Int)).length≤1:=by cases u.R<;>simp
 have l2:(cond u.A (cond u.R ([]++[x.R]) ([]:List Int)++[x.A]) (cond u.R ([]++[x.R]) ([]:List Int))).length≤2:=by cases u.R<;>cases u.A<;>simp
 show(zi (zah.r0 (n+10)) (n+10) _).bind _=_
 simp only [zi]
 rw [(i0 []).resolve_right (by simp)]
 simp only [obs]
 rw [(i1 _).resolve_right (by omega)]
 simp only [obs]
 rw [(i2 _).resolve_right (by omega)]
 simp only [obs]
 rw [i3]
 simp only [obs,znb]
 cases u.R<;>cases u.A<;>cases u.B<;>rfl
def zgr (m:zK) (r:Int):Bool:= !inB r 0 (m.Registers-1)
theorem z8w (N:Nat) (l:List Int) (h:l.length<N) (hl:l.length<1000000000) (m:zK) (hm:2≤m.Registers∧m.Registers≤8):zd2 N l m=some (l.any (zgr m)):=by
 unfold zd2 zat
 have c1:∀r,zg4 r m=some (zgr m r):=fun r=>by
  unfold zg4 zgr;rw [w6e,zpq];rfl
 have:=zcm (f:=zat.r0 N) (fun i=>(l,(l.length:Int),(i:Int),m)) (fun i=>(l[i]?).bind fun x=>if zgr m x then some (i:Int)else none) l.length
  (fun i hi=>by
   have hx:=lge hi;simp only [zat.r0,zat.b0,zau,hx,obs,dct (show(i:Int)<(l.length:Int)by omega),ctr,c1];rw [w6e];cases hb:zgr m l[i]<;>simp)
  (by simp only [zat.r0,zat.b0,dcf (show ¬(l.length:Int)<(l.length:Int)by omega),cfa]) h
 simp only [nc0]at this
 rw [this]
 simp only [obs]
 cases hfs:(List.range l.length).findSome? (fun i:Nat=>(l[i]?).bind fun x=>if zgr m x=true then some (i:Int)else none)with
 | some r=>
  simp only [zbq,obs];obtain⟨i,hi,hr⟩:=eof hfs;rw [Option.bind_eq_some_iff]at hr;obtain⟨x,hx,hr⟩:=hr;split at hr
  · rename_i hb;cases hr;have:l.any (zgr m)=true:=List.any_eq_true.2 ⟨x,lmg hx,hb⟩;rw [this];simp
  · cases hr
 | none=>
  simp only [zbq,obs];rw [List.findSome?_eq_none_iff]at hfs;have:l.any (zgr m)=false:=by
   rw [List.any_eq_false];intro x hx hb;obtain⟨i,hi⟩:=List.getElem?_of_mem hx;have:=hfs i (by simp;exact(gei hi).1);rw [hi]at this;simp [hb]at this
  rw [this];rfl
theorem zags (m:zK) (hm:2≤m.Registers∧m.Registers≤8) {x:zA} {u:zR} (hu:zhw x=some u):zk1 m x=some (!(znb x u).any (zgr m)):=by
 have c1:∀r,zkg m r=some (!zgr m r):=fun r=>by
  unfold zkg zgr;rw [w6e,zma];simp
 unfold zk1
 rw [hu]
 have aux:∀b r,(cond b [r] []).any (zgr m)=(b&&zgr m r):=fun b r=>by cases b<;>simp
 simp only [c1,obs,znb,List.any_append,aux]
 generalize zgr m x.R=p
 generalize zgr m x.A=q
 generalize zgr m x.B=r
 cases u.R<;>cases u.A<;>cases u.B<;>cases p<;>cases q<;>cases r<;>rfl
def zd4 (x:zA):DataType:=if x.Op=4 then x.Second else x.zF
def zmd (m:zK) (c:zH) (x:zA) (u:zR):Bool:=
 (znb x u).any (zgr m)||((u.Target&& !inB x.Target 0 ((c.zB.length:Int)-1))||((u.Mask&& !inB x.Mask 1 7)||((u.Pointer&& !ze7 c.Storage x.Pointer)||((u.Source&& !ze7 c.Storage x.Source)||
  ((u.Place&& !zc8 c.Storage x.Place (szE (zd4 x)))||((u.From&& !zc8 c.Storage x.From (szE x.Second))||(u.zM&& !inB x.zM 0 4)))))))
theorem eD (t:DataType):(⟨t.Kind,t.Length,t.Scale⟩:DataType)=t:=rfl
theorem eP (t:zN):(⟨t.Based,t.Pointer,t.Offset⟩:zN)=t:=rfl
theorem eS (t:Storage):(⟨t.Bytes,t.Tags⟩:Storage)=t:=rfl
theorem eN (t:Number):(⟨t.N,t.Scale⟩:Number)=t:=rfl
theorem eM (t:zK):(⟨t.Registers,t.yK,t.yI⟩:zK)=t:=rfl
theorem eC (t:zH):(⟨t.Storage,t.zB,t.zQ⟩:zH)=t:=rfl
theorem eX (t:zA):(⟨t.Op,t.R,t.A,t.B,t.zM,t.Place,t.From,t.zF,t.Second,t.Half,t.zO,t.Number,t.Text,t.Other,t.Mask,t.Target,t.Pointer,t.Source⟩:zA)=t:=rfl
theorem eF (t:zU):(⟨t.fields,t.types⟩:zU)=t:=rfl
theorem nF (a b:Bool):(cond a (some (!b)) (some false))=some (a&& !b):=by cases a<;>rfl
structure InsOk (c:zH) (x:zA) (u:zR):Prop where
 sto:StoOk c.Storage
 len:c.zB.length<1000000000
 pt:u.Place=true→zce (zd4 x)=0
 ft:u.From=true→zce x.Second=0
 po: -9223372036854775808≤x.Place.Offset∧x.Place.Offset≤9223372036854775807
 fo: -9223372036854775808≤x.From.Offset∧x.From.Offset≤9223372036854775807
theorem andK {a b:Bool} {o:Option Bool} (h:a=true→o=some b):(cond a o (some false))=some (a&&b):=by
 cases a
 · rfl
 · exact h rfl
theorem zaey (N:Nat) (hN:20<N) {m:zK} (hm:2≤m.Registers∧m.Registers≤8) {c:zH} {x:zA} {f:zU} {u:zR} (hf:zck x=some f) (ag:Agree f u) (ok:InsOk c x u):
 zin N m c x=some (!zmd m c x u):=by
 obtain⟨n,rfl⟩:∃n,N=n+10:=⟨N-10,by omega⟩
 have hl:(znb x u).length≤3:=by unfold znb;cases u.R<;>cases u.A<;>cases u.B<;>simp
 have hlen:=ok.len
 have g1:∀p t,(u.Place=true→zce t=0)→(cond u.Place ((zef (n+10) c.Storage p t).bind fun r=>some (!r)) (some false))=some (u.Place&& !zc8 c.Storage p (szE t)):=fun p t h=>andK fun hp=>by rw [z6v ok.sto _ (by omega) _ (h hp)];rfl
 have g2:∀p t,(u.From=true→zce t=0)→(cond u.From ((zef (n+10) c.Storage p t).bind fun r=>some (!r)) (some false))=some (u.From&& !zc8 c.Storage p (szE t)):=fun p t h=>andK fun hp=>by rw [z6v ok.sto _ (by omega) _ (h hp)];rfl
 unfold zin
 try simp only [eD,eP,eS,eM,eC,eX]
 rw [hf,zahe n hf ag]
 simp only [obs]
 rw [z8w _ _ (by omega) (by omega) m hm]
 simp only [obs]
 unfold zmd
 cases hr:(znb x u).any (zgr m)with
 | true=>rfl
 | false=>
  simp only [cfa,Bool.false_or,ag.Place,ag.From,ag.Target,ag.Mask,ag.Pointer,ag.Source,ag.Calc,zm1,zbx,obs];rw [w6e];simp only [zpq,z9h,nF,obs]
  by_cases h4:x.Op=4
  · have hp:zd4 x=x.Second:=ifp h4;have k:=ok.pt;rw [hp]at k⊢;rw [g2 _ _ ok.ft];cases hup:u.Place with
    | true=>
     simp only [h4,decide_true,Bool.and_true,ctr,Bool.true_and];have:=g1 x.Place x.Second k;rw [hup]at this;simp only [ctr,Bool.true_and]at this;rw [this];simp only [orB,obs,Bool.or_assoc,Bool.true_and]
    | false=>
     simp only [h4,decide_true,Bool.false_and,cfa,obs,orB,Bool.or_assoc,Bool.false_or]
  · have hp:zd4 x=x.zF:=ifn h4;have k:=ok.pt;rw [hp]at k⊢;rw [g1 _ _ k,g2 _ _ ok.ft];simp only [h4,decide_false,Bool.and_false,cfa,obs,orB,Bool.or_assoc]
def zpp (m:zK) (x:zA):Bool:=(decide (x.Op=7)&& !m.yK)||(x.zO&& !m.yI)
def zqq (x:zA):Bool:=decide ((x.Text.size:Int)>256)||decide ((x.Other.size:Int)>256)
theorem zajo (m:zK) (x:zA) (h:x.zO=true→x.Op=4):zi8 m x=some (!zpp m x):=by
 unfold zi8 zpp
 by_cases h7:x.Op=7
 · have h4:x.zO=false:=by
    cases hi:x.zO with
    | false=>rfl
    | true=>have:=h hi;omega
   rw [h4];simp only [h7,zde];cases m.yK<;>rfl
 · by_cases h4:x.Op=4
   · simp only [h4,zde];cases x.zO<;>cases m.yI<;>rfl
   · have h5:x.zO=false:=by
      cases hi:x.zO with
      | false=>rfl
      | true=>exact absurd (h hi) h4
     simp [h5,h7,h4,zde]
theorem zael (m:zK) (x:zA):ztv m x=some (zpp m x):=by
 unfold ztv zpp
 simp only [zbx]
 cases decide (x.Op=7)<;>cases m.yK<;>cases x.zO<;>cases m.yI<;>rfl
def zv9 (m:zK) (c:zH) (x:zA) (u:zR):Int:=
 cond (znj x u) 5 (cond (zpp m x) 39 (if zd5 x.zF u.zF≠0 then zd5 x.zF u.zF else if zd5 x.Second u.Second≠0 then zd5 x.Second u.Second else
  cond (zmd m c x u) 3 (if zrf x.Number≠0 then zrf x.Number else cond (zqq x) 2 0)))
theorem zt8 {x:zA} {u:zR} (h:znj x u=false):(x.zO=true→x.Op=4)∧(u.Number=false→zrf x.Number=0):=by
 unfold znj at h
 simp only [Bool.or_eq_false_iff]at h
 obtain⟨_,_,_,_,_,_,_,_,_,h10,h11,_⟩:=h
 constructor
 · intro hi;rw [hi]at h10;simpa using h10
 · intro hn;rw [hn]at h11;simp only [Bool.not_false,Bool.true_and,Bool.not_eq_eq_eq_not,bnt,Bool.and_eq_true,beq_iff_eq,Bool.not_eq_false']at h11;obtain⟨e1,e2⟩:x.Number.N=0∧x.Number.Scale=0:=by simpa using h11
   unfold zrf;rw [e1,e2]
   decide
theorem zajn (N:Nat) (hN:20<N) {m:zK} (hm:2≤m.Registers∧m.Registers≤8) {c:zH} {x:zA} {f:zU} {u:zR} (hop:inB x.Op 0 26=true) (hf:zck x=some f) (ag:Agree f u)
 (ok:zd5 x.zF u.zF=0→zd5 x.Second u.Second=0→InsOk c x u):zdy N m c x=some (zv9 m c x u):=by
 have f3:∀a b d:Int,za4 N [a,b,d]=some (zcu [a,b,d]):=fun a b d=>z0t N _ (by simp;omega) (by simp)
 unfold zdy zv9
 try simp only [eD,eP,eS,eM,eC,eX,eN,eF]
 rw [zpq,hop,hf,zahf hf ag]
 simp only [obs,bnt,cfa]
 rw [zaew N (by omega) ag]
 rw [zaa3 x u _ rfl]
 simp only [zus,znf,obs,f3,orB]
 cases he:znj x u with
 | true=>
  have hx:∃b,zi8 m x=some b:=by
   unfold zi8;cases(x.Op !=7)<;>cases m.yK<;>cases(x.Op !=4)<;>cases x.zO<;>cases m.yI<;>exact⟨_,rfl⟩
  obtain⟨b,hb⟩:=hx;rw [hb];simp [zcu]
 | false=>
  obtain⟨h1,h2⟩:=zt8 he;rw [zajo m x h1];simp only [obs,Bool.not_not,cfa];cases zpp m x with
  | true=>simp [zcu]
  | false=>
   simp only [cfa]
   by_cases e1:zd5 x.zF u.zF=0
   · by_cases e2:zd5 x.Second u.Second=0
     · rw [zaey N hN hm hf ag (ok e1 e2)];simp only [e1,e2,zcu,if_true,obs,Bool.not_not];cases zmd m c x u with
       | true=>simp
       | false=>
        by_cases e3:zrf x.Number=0
        · cases hl:zqq x with
          | true=>unfold zqq at hl;simp [e3,hl]
          | false=>unfold zqq at hl;simp [e3,hl]
        · simp [e3]
     · simp [zcu,e1,e2,zde]
   · simp [zcu,e1,zde]
theorem zahv {f:zU} {u:zR} (ag:Agree f u):(u.zF=0∨u.zF=1∨u.zF=2∨u.zF=3)∧(u.Second=0∨u.Second=1∨u.Second=2∨u.Second=3):=by
 have h1:=ag.class1
 have h2:=ag.class2
 have h3:=ag.cls
 omega
theorem zai0 {m:zK} (hm:2≤m.Registers∧m.Registers≤8) {c:zH} {x:zA} {f:zU} {u:zR} (hop:inB x.Op 0 26=true) (hu:zhw x=some u) (ag:Agree f u)
 (ok:zd5 x.zF u.zF=0→zd5 x.Second u.Second=0→InsOk c x u):zhx m c x=some (zv9 m c x u):=by
 obtain⟨c1,c2⟩:=zahv ag
 unfold zhx zv9
 try simp only [eD,eP,eS,eM,eC,eX,eN,eF]
 rw [zma,hop,hu]
 simp only [obs,bnt,cfa]
 rw [zaem,zael,z1s _ _ c1,z1s _ _ c2,zags m hm hu]
 simp only [obs]
 cases he:znj x u with
 | true=>rfl
 | false=>
  obtain⟨h1,h2⟩:=zt8 he;simp only [cfa];cases zpp m x with
  | true=>rfl
  | false=>
   simp only [cfa]
   by_cases e1:zd5 x.zF u.zF=0
   · by_cases e2:zd5 x.Second u.Second=0
     · have o:=ok e1 e2;have hlen:=o.len;have hb:∀t,zce t=0→zdp t=some (szE t):=fun t h=>zmr h;have g1:∀t,(u.Place=true→zce t=0)→(cond u.Place ((zdp t).bind fun r=>(zh9 c x.Place r).bind fun r=>some (!r)) (some false))=some (u.Place&& !zc8 c.Storage x.Place (szE t)):=fun t h=>andK fun hp=>by rw [zmr (h hp)];simp only [obs];rw [z52 o.sto rfl _ o.po (h hp)];rfl
       have g2:(cond u.From ((zdp x.Second).bind fun r=>(zh9 c x.From r).bind fun r=>some (!r)) (some false))=some (u.From&& !zc8 c.Storage x.From (szE x.Second)):=andK fun hp=>by rw [zmr (o.ft hp)];simp only [obs];rw [z52 o.sto rfl _ o.fo (o.ft hp)];rfl
       have k:=o.pt;have kn:∀e:Int,(u.Number=false→e=0)→(cond (u.Number&&e !=0) (some e) (cond (zqq x) (some 2) (some 0)))=some (if e≠0 then e else cond (zqq x) 2 0):=by
        intro e h
        by_cases h0:e=0
        · subst h0;cases u.Number<;>cases zqq x<;>rfl
        · cases hn:u.Number with
          | false=>exact absurd (h hn) h0
          | true=>simp [h0,zde]
       simp only [e1,e2,bsf,cfa,ne_eq,not_true_eq_false,if_false,zbx];rw [w6e];simp only [zma,z9a o.sto,zaci,nF,zm1,orB,g2,obs,←zqq.eq_def];unfold zmd
       by_cases h4:x.Op=4
       · have hp:zd4 x=x.Second:=ifp h4;rw [hp]at k⊢;rw [g1 _ k];simp only [h4,decide_true,ctr,obs,kn _ h2];generalize (znb x u).any (zgr m)=t1;generalize (u.Target&& !inB x.Target 0 ((c.zB.length:Int)-1))=t2;generalize (u.Mask&& !inB x.Mask 1 7)=t3;generalize (u.Pointer&& !ze7 c.Storage x.Pointer)=t4;generalize (u.Source&& !ze7 c.Storage x.Source)=t5;generalize (u.Place&& !zc8 c.Storage x.Place (szE x.Second))=t6;generalize (u.From&& !zc8 c.Storage x.From (szE x.Second))=t7;generalize (u.zM&& !inB x.zM 0 4)=t8;cases t1<;>cases t2<;>cases t3<;>cases t4<;>cases t5<;>cases t6<;>cases t7<;>cases t8<;>rfl
       · have hp:zd4 x=x.zF:=ifn h4;rw [hp]at k⊢;rw [g1 _ k];simp only [h4,decide_false,cfa,obs,kn _ h2];generalize (znb x u).any (zgr m)=t1;generalize (u.Target&& !inB x.Target 0 ((c.zB.length:Int)-1))=t2;generalize (u.Mask&& !inB x.Mask 1 7)=t3;generalize (u.Pointer&& !ze7 c.Storage x.Pointer)=t4;generalize (u.Source&& !ze7 c.Storage x.Source)=t5;generalize (u.Place&& !zc8 c.Storage x.Place (szE x.zF))=t6;generalize (u.From&& !zc8 c.Storage x.From (szE x.Second))=t7;generalize (u.zM&& !inB x.zM 0 4)=t8;cases t1<;>cases t2<;>cases t3<;>cases t4<;>cases t5<;>cases t6<;>cases t7<;>cases t8<;>rfl
     · simp [e1,e2,zde]
   · simp [e1,zde]
theorem zkx {n:Nat} {c:zH} (h:Wft En n Ty.zH c):c.Storage.Bytes.size≤n∧c.Storage.Tags.length≤n∧c.zB.length≤n∧c.zQ.length≤n∧∀x∈c.zB,Wft En n Ty.zA x:=by
 have h1:=h (.sc (.string c.Storage.Bytes)) (by show _∈zje c;simp [zje])
 have h2:=h (.lst Ty.bool c.Storage.Tags) (by show _∈zje c;simp [zje])
 have h3:=h (.lst Ty.zA c.zB) (by show _∈zje c;simp [zje])
 have h4:=h (.lst Ty.zT c.zQ) (by show _∈zje c;simp [zje])
 cases h1 with
 | str h1=>
  cases h2 with
  | lst h2 _=>
   cases h3 with
   | lst h3 h3'=>
    cases h4 with
    | lst h4 _=>exact⟨h1,h2,h3,h4,h3'⟩
theorem z83 {n:Nat} {z:Int} (h:Wfc En n (.sc (.int .i64 z))): -9223372036854775808≤z∧z≤9223372036854775807:=by
 cases h with
 | int h1 h2=>
  have e1:IntKind.i64.min= -9223372036854775808:=by decide
  have e2:IntKind.i64.max=9223372036854775807:=by decide
  rw [e1]at h1;rw [e2]at h2;exact⟨h1,h2⟩
theorem zajm {n:Nat} {x:zA} (h:Wft En n Ty.zA x):(-9223372036854775808≤x.Place.Offset∧x.Place.Offset≤9223372036854775807)∧(-9223372036854775808≤x.From.Offset∧x.From.Offset≤9223372036854775807):=
 ⟨z83 (h _ (by show _∈zj4 x;simp [zj4])),z83 (h _ (by show _∈zj4 x;simp [zj4]))⟩
def zmi (m:zK) (c:zH) (x:zA):Int:=if inB x.Op 0 26=true then zv9 m c x ((zhw x).getD ⟨false,false,false,false,false,false,false,false,false,false,false,false,false,false,0,0⟩)else 4
theorem z79 (N:Nat) (hN:20<N) {m:zK} (hm:2≤m.Registers∧m.Registers≤8) {c:zH} (hs:StoOk c.Storage) (hlen:c.zB.length<1000000000) {n:Nat} {x:zA} (hx:Wft En n Ty.zA x):
 zdy N m c x=some (zmi m c x)∧zhx m c x=some (zmi m c x):=by
 obtain⟨w1,w2⟩:=zajm hx
 unfold zmi
 by_cases hop:inB x.Op 0 26=true
 · obtain⟨f,u,hf,hu,ag,h4,h5,h6⟩:=zyb x hop;have ok:zd5 x.zF u.zF=0→zd5 x.Second u.Second=0→InsOk c x u:=fun e1 e2=>{
    sto:=hs,len:=hlen,po:=w1,fo:=w2,
    pt:=fun hp=>(by
     have:=h6 hp;unfold zd4;split
     · rename_i h7;rw [ifp h7]at this;exact znq e2 this
     · rename_i h7;rw [ifn h7]at this;exact znq e1 this),
    ft:=fun hp=>znq e2 (h5 hp)}
   rw [ifp hop,hu];exact⟨zajn N hN hm hop hf ag ok,zai0 hm hop hu ag ok⟩
 · rw [ifn hop];have e:inB x.Op 0 26=false:=by simpa using hop
   constructor
   · unfold zdy;rw [zpq,e];rfl
   · unfold zhx;rw [zma,e];rfl
def zm2 (c:zH) (t:zT):Bool:=(inB t.From 0 t.To&&(decide (t.To≤(c.zB.length:Int))&&(inB t.Exception 0 999&&inB t.Handler 0 ((c.zB.length:Int)-1))))
theorem zahc (c:zH) (hlen:c.zB.length<1000000000) (t:zT):zil c t=some (cond (zm2 c t) 0 3):=by
 unfold zil zm2
 rw [w6e]
 simp only [zpq,zus,zm1,obs,Bool.and_assoc]
 generalize (inB t.From 0 t.To&&(decide (t.To≤(c.zB.length:Int))&&(inB t.Exception 0 999&&inB t.Handler 0 ((c.zB.length:Int)-1))))=b
 cases b<;>rfl
theorem zagq (c:zH) (t:zT):((decide (t.From<0)||decide (t.From>t.To))||(decide (t.To>(c.zB.length:Int))))= !(inB t.From 0 t.To&&decide (t.To≤(c.zB.length:Int))):=by
 unfold inB
 by_cases h1:t.From<0
 · simp [h1,show ¬(0≤t.From)by omega]
 · by_cases h2:t.From>t.To
   · simp [h1,h2,show ¬(t.From≤t.To)by omega]
   · by_cases h3:t.To>(c.zB.length:Int)
     · simp [h1,h2,h3,show ¬(t.To≤(c.zB.length:Int))by omega]
     · simp [h1,h2,h3,show(0≤t.From)by omega,show(t.From≤t.To)by omega,show(t.To≤(c.zB.length:Int))by omega]
def gI (m:zK) (c:zH) (i:Nat):Option (Int × Int):=(c.zB[i]?).bind fun x=>if zmi m c x=0 then none else some ((i:Int),zmi m c x)
def gT (c:zH) (i:Nat):Option (Int × Int):=(c.zQ[i]?).bind fun t=>if zm2 c t=true then none else some ((i:Int),3)
def zpd (m:zK) (c:zH):Int × Int:=
 match(List.range c.zB.length).findSome? (gI m c)with
 | some r=>r
 | none=>match(List.range c.zQ.length).findSome? (gT c)with
  | some r=>r
  | none=>((c.zB.length:Int),0)
theorem zaez (N:Nat) (hN:1048600<N) {m:zK} (hm:2≤m.Registers∧m.Registers≤8) {c:zH} (hs:StoOk c.Storage) (hc:Wft En 1048576 Ty.zH c):
 ((zp (zj.r0 N) N (c.zB,(c.zB.length:Int),0,m,c)).bind fun z10=>
 zbq z10 (fun z=>some z) (fun y9=>(zp (zj.r2 N) N (y9.2.2.2.2.zQ,(y9.2.2.2.2.zQ.length:Int),0,y9.2.2.2.2)).bind fun z12=>zbq z12 (fun z=>
 some z) (fun y11=>some ((y11.2.2.2.zB.length:Int),0))))=some (zpd m c):=by
 obtain⟨w1,w2,w3,w4,w5⟩:=zkx hc
 have l1:=zcm (f:=zj.r0 N) (fun i=>(c.zB,(c.zB.length:Int),(i:Int),m,c)) (gI m c) c.zB.length
  (fun i hi=>by
   have hx:=lge hi;have hb:=(z79 N (by omega) hm hs (by omega) (w5 _ (List.getElem_mem hi))).1;simp only [zj.r0,zj.b0,zau,hx,obs,dct (show(i:Int)<(c.zB.length:Int)by omega),ctr,eD,eP,eS,eM,eC,eX,eN,gI,hb];rw [w6e]
   by_cases h0:zmi m c c.zB[i]=0<;>simp [h0,zde])
  (by simp only [zj.r0,zj.b0,dcf (show ¬(c.zB.length:Int)<(c.zB.length:Int)by omega),cfa]) (N:=N) (by omega)
 have l2:=zcm (f:=zj.r2 N) (fun i=>(c.zQ,(c.zQ.length:Int),(i:Int),c)) (gT c) c.zQ.length
  (fun i hi=>by
   have hx:=lge hi;simp only [zj.r2,zj.b2,zau,hx,obs,dct (show(i:Int)<(c.zQ.length:Int)by omega),ctr,gT,zahc c (by omega)];rw [w6e];cases zm2 c c.zQ[i]<;>simp)
  (by simp only [zj.r2,zj.b2,dcf (show ¬(c.zQ.length:Int)<(c.zQ.length:Int)by omega),cfa]) (N:=N) (by omega)
 simp only [nc0]at l1 l2
 rw [l1]
 unfold zpd
 simp only [obs]
 cases(List.range c.zB.length).findSome? (gI m c)with
 | some r=>rfl
 | none=>
  simp only [zbq];rw [l2];simp only [obs];cases(List.range c.zQ.length).findSome? (gT c)<;>rfl
theorem zvm (N:Nat) (hN:1048600<N) {m:zK} (hm:2≤m.Registers∧m.Registers≤8) {c:zH} (hs:StoOk c.Storage) (hc:Wft En 1048576 Ty.zH c):
 ((zp (zam.r1 N) N (0,m,c)).bind fun z6=>
 zbq z6 (fun z=>some z) (fun y5=>(zp (zam.r3 N) N (0,y5.2.2)).bind fun z8=>zbq z8 (fun z=>some z) (fun y7=>
 some ((y7.2.zB.length:Int),0))))=some (zpd m c):=by
 obtain⟨w1,w2,w3,w4,w5⟩:=zkx hc
 have l1:=zcm (f:=zam.r1 N) (fun i=>((i:Int),m,c)) (gI m c) c.zB.length
  (fun i hi=>by
   have hx:=lge hi;have hb:=(z79 N (by omega) hm hs (by omega) (w5 _ (List.getElem_mem hi))).2;simp only [zam.r1,zam.b1,zau,hx,obs,dct (show(i:Int)<(c.zB.length:Int)by omega),ctr,eD,eP,eS,eM,eC,eX,eN,gI,hb];rw [w6e]
   by_cases h0:zmi m c c.zB[i]=0<;>simp [h0,zde])
  (by simp only [zam.r1,zam.b1,dcf (show ¬(c.zB.length:Int)<(c.zB.length:Int)by omega),cfa]) (N:=N) (by omega)
 have l2:=zcm (f:=zam.r3 N) (fun i=>((i:Int),c)) (gT c) c.zQ.length
  (fun i hi=>by
   have hx:=lge hi;simp only [zam.r3,zam.b3,zau,hx,obs,dct (show(i:Int)<(c.zQ.length:Int)by omega),ctr,gT,orB,zma,zagq];rw [w6e (n:=(i:Int)+1),w6e (n:=(c.zB.length:Int)-1)];have bl:∀a b d e:Bool,((!(a&&b)|| !d)|| !e)= !(a&&(b&&(d&&e))):=fun a b d e=>by cases a<;>cases b<;>cases d<;>cases e<;>rfl
   simp only [zma,obs,orB,bl,←zm2.eq_def];cases zm2 c c.zQ[i]<;>simp)
  (by simp only [zam.r3,zam.b3,dcf (show ¬(c.zQ.length:Int)<(c.zQ.length:Int)by omega),cfa]) (N:=N) (by omega)
 simp only [nc0]at l1 l2
 rw [l1]
 unfold zpd
 simp only [obs]
 cases(List.range c.zB.length).findSome? (gI m c)with
 | some r=>rfl
 | none=>
  simp only [zbq];rw [l2];simp only [obs];cases(List.range c.zQ.length).findSome? (gT c)<;>rfl
theorem zafn (n lo hi:Int):zfk n lo hi=some (inB n lo hi):=by
 unfold zfk inB
 cases decide (lo≤n)<;>rfl
theorem z28 {b:ByteArray} {i:Int} (h0:0≤i) (h1:i<(b.size:Int)):∃x,znh b i=some x:=by
 unfold znh
 rw [ifp h0]
 exact⟨_,getElem?_pos b i.toNat (by omega)⟩
theorem zxf (N:Nat) (b:ByteArray) (h:b.size<N) (hb:b.size<1000):∃x,zbc N b=some x:=by
 unfold zbc
 obtain⟨s',h1,_⟩:=zt4 (f:=zbc.r0 N) (fun i s=>∃a:Int,s=(b,a,(b.size:Int),(i:Int))) b.size
  (fun i s hi hs=>by
   obtain⟨a,rfl⟩:=hs;obtain⟨x,hx⟩:=z28 (b:=b) (i:=(i:Int)) (by omega) (by omega);simp only [zbc.r0,zbc.b0,dct (show(i:Int)<(b.size:Int)by omega),ctr,hx,obs];rw [w6e (n:=(i:Int)+1)];exact⟨_,rfl,_,rfl⟩)
  (fun s hs=>by
   obtain⟨a,rfl⟩:=hs;simp only [zbc.r0,zbc.b0,dcf (show ¬(b.size:Int)<(b.size:Int)by omega),cfa];exact⟨_,rfl,_,rfl⟩) h (s:=(b,0,(b.size:Int),0)) ⟨0,rfl⟩
 rw [h1]
 exact⟨_,rfl⟩
theorem zaea (p:Pointer):∃e,zdu p=some e:=by
 unfold zdu
 simp only [zafn,obs,zm1]
 generalize inB p.Kind 0 2=a
 generalize inB p.Address.yF 0 1099511627775=b
 generalize inB p.Address.Offset 0 16777215=c
 generalize inB p.Authority 0 1023=d
 generalize (p.Authority !=0&&p.Kind !=1)=e
 cases a<;>cases b<;>cases c<;>cases d<;>cases e<;>exact⟨_,rfl⟩
theorem zet (b:ByteArray) (i j:Nat) (h:j≤b.size) (hij:i≤j):(b.extract i j).size=j-i:=by
 rw [ByteArray.size_extract]
 omega
theorem z1b (N:Nat) (hN:20<N) (b:ByteArray) (hb:b.size=16):∃r,zea N b=some r:=by
 obtain⟨x1,h1⟩:=z28 (b:=b) (i:=1) (by omega) (by omega)
 obtain⟨x0,h0⟩:=z28 (b:=b) (i:=0) (by omega) (by omega)
 have z1:(b.extract (2:Int).toNat (4:Int).toNat).size=2:=zet b 2 4 (by omega) (by omega)
 have z2:(b.extract (4:Int).toNat (10:Int).toNat).size=6:=zet b 4 10 (by omega) (by omega)
 have z3:(b.extract (10:Int).toNat b.size).size=6:=(zet b 10 b.size (by omega) (by omega)).trans (by omega)
 obtain⟨n1,e1⟩:=zxf N _ (by omega:(b.extract (2:Int).toNat (4:Int).toNat).size<N) (by omega)
 obtain⟨n2,e2⟩:=zxf N _ (by omega:(b.extract (4:Int).toNat (10:Int).toNat).size<N) (by omega)
 obtain⟨n3,e3⟩:=zxf N _ (by omega:(b.extract (10:Int).toNat b.size).size<N) (by omega)
 unfold zea
 rw [show((b.size:Int) !=16)=false by rw [hb];rfl]
 simp only [cfa,h1,h0,obs]
 cases((x1.toNat:Int) !=0)with
 | true=>exact⟨_,rfl⟩
 | false=>
  simp only [cfa];rw [ifp,ifp,e1];simp only [obs];rw [ifp,ifp,e2];simp only [obs];rw [ifp,e3];simp only [obs];obtain⟨e,he⟩:=zaea (⟨(w6 (x0.toNat:Int)),(⟨n2,n3⟩:Address),n1⟩:Pointer);rw [he];simp only [obs];cases(e !=0)<;>exact⟨_,rfl⟩
theorem zaaq (N:Nat) (hN:20<N) (b:ByteArray) (hb:b.size=16):∃r,z0f N b=some r:=z1b N hN b hb
theorem zve (N:Nat) (hN:2000<N) (s:Storage):∃i1 e1 e2,zq N s=some (i1,e1)∧zq3 N s=some e2∧
 ((e1=e2∧e1≠0)∨(StoOk s∧s.Tags.length≤64∧(e1=0∨(e1=22∧true∈s.Tags))∧(e2=0∨(e2=22∧true∈s.Tags)))):=by
 unfold zq zq3 zdk
 try simp only [eS]
 by_cases h1:(s.Bytes.size:Int)>1024
 · rw [dct h1];exact⟨_,_,_,rfl,rfl,.inl ⟨rfl,by decide⟩⟩
 · rw [dcf h1];have hm:(s.Bytes.size:Int).tmod 16=(s.Bytes.size:Int)%16:=tme;have hd:(s.Bytes.size:Int).tdiv 16=(s.Bytes.size:Int)/16:=tde
   by_cases h2:(s.Bytes.size:Int)%16=0
   · rw [hm,hd,w6e]
     by_cases h3:(s.Tags.length:Int)=(s.Bytes.size:Int)/16
     · rw [show(((s.Bytes.size:Int)%16) !=0)=false by rw [h2];rfl,show((s.Tags.length:Int) !=(s.Bytes.size:Int)/16)=false by rw [←h3];exact bsf _];simp only [cfa];have ok:StoOk s:=⟨by omega,by omega⟩;have hw:∀i:Nat,i<s.Tags.length→w6 ((i:Int)*16)=(i:Int)*16∧w6 ((i:Int)*16+16)=(i:Int)*16+16:=fun i hi=>⟨w6e,w6e⟩;have hx:∀i:Nat,i<s.Tags.length→(s.Bytes.extract ((i:Int)*16).toNat ((i:Int)*16+16).toNat).size=16:=fun i hi=>by
        rw [zet _ _ _ (by omega) (by omega)];omega
       have l1:=zt3 (f:=zq.r1 N) (fun i t=>t=(s.Tags,(s.Tags.length:Int),(i:Int),s)) (fun r=>r.2=22∧true∈s.Tags) s.Tags.length
        (fun i t hi ht=>by
         subst ht;obtain⟨w1,w2⟩:=hw i hi;have hx1:=lge hi;simp only [zq.r1,zq.b1,zau,hx1,obs,dct (show(i:Int)<(s.Tags.length:Int)by omega),ctr];rw [w6e (n:=(i:Int)+1)];cases hb:s.Tags[i]with
         | false=>exact .inl ⟨_,rfl,rfl⟩
         | true=>
          simp only [bnt,cfa,w1,w2];rw [ifp,ifp];obtain⟨r,hr⟩:=z1b N (by omega) _ (hx i hi);rw [hr];simp only [obs];cases(r.2 !=0)with
          | true=>exact .inr ⟨_,rfl,rfl,by rw [←hb];exact List.getElem_mem hi⟩
          | false=>exact .inl ⟨_,rfl,rfl⟩)
        (fun t ht=>by
         subst ht;exact⟨_,by simp only [zq.r1,zq.b1,dcf (show ¬(s.Tags.length:Int)<(s.Tags.length:Int)by omega),cfa],rfl⟩) (N:=N) (by omega) (s:=(s.Tags,(s.Tags.length:Int),0,s)) rfl
       have l2:=zt3 (f:=zdk.r0 N) (fun i t=>t=((s.Bytes.size:Int)/16,(i:Int),s)) (fun r=>r.2=22∧true∈s.Tags) s.Tags.length
        (fun i t hi ht=>by
         subst ht;obtain⟨w1,w2⟩:=hw i hi;have hx1:=lge hi;simp only [zdk.r0,zdk.b0,zau,hx1,obs,dct (show(i:Int)<(s.Bytes.size:Int)/16 by omega),ctr];rw [w6e (n:=(i:Int)+1)];cases hb:s.Tags[i]with
         | false=>exact .inl ⟨_,rfl,rfl⟩
         | true=>
          simp only [ctr,zvp,w1,w2];rw [ifp,ifp];simp only [obs];obtain⟨r,hr⟩:=zaaq N (by omega) _ (hx i hi);rw [hr];simp only [obs];cases(r.2 !=0)with
          | true=>exact .inr ⟨_,rfl,rfl,by rw [←hb];exact List.getElem_mem hi⟩
          | false=>exact .inl ⟨_,rfl,rfl⟩)
        (fun t ht=>by
         subst ht;exact⟨_,by simp only [zdk.r0,zdk.b0,dcf (show ¬(s.Tags.length:Int)<(s.Bytes.size:Int)/16 by omega),cfa],rfl⟩) (N:=N) (by omega) (s:=((s.Bytes.size:Int)/16,0,s)) rfl
       have r1:∃i1 e1,((zp (zq.r1 N) N (s.Tags,(s.Tags.length:Int),0,s)).bind fun z2=>zbq z2 (fun z=>some z) (fun y1=>some ((y1.2.2.2.Tags.length:Int),(0:Int))))=some (i1,e1)∧(e1=0∨(e1=22∧true∈s.Tags)):=by
        rcases l1 with⟨t,g1,_⟩|⟨r,g1,g2⟩
        · rw [g1];exact⟨_,_,rfl,.inl rfl⟩
        · rw [g1];exact⟨r.1,r.2,rfl,.inr g2⟩
       have r2:∃e2,((((zp (zdk.r0 N) N ((s.Bytes.size:Int)/16,0,s)).bind fun z2=>zbq z2 (fun z=>some z) (fun y1=>some (y1.1,(0:Int)))).bind fun r1=>some r1.2)=some e2)∧(e2=0∨(e2=22∧true∈s.Tags)):=by
        rcases l2 with⟨t,g1,_⟩|⟨r,g1,g2⟩
        · rw [g1];exact⟨_,rfl,.inl rfl⟩
        · rw [g1];exact⟨r.2,rfl,.inr g2⟩
       obtain⟨i1,e1,g1,g2⟩:=r1;obtain⟨e2,g3,g4⟩:=r2;exact⟨i1,e1,e2,g1,g3,.inr ⟨ok,by omega,g2,g4⟩⟩
     · rw [show(((s.Bytes.size:Int)%16) !=0)=false by rw [h2];rfl,show((s.Tags.length:Int) !=(s.Bytes.size:Int)/16)=true by rw [zde];exact dct h3];exact⟨_,_,_,rfl,rfl,.inl ⟨rfl,by decide⟩⟩
   · rw [hm,show(((s.Bytes.size:Int)%16) !=0)=true by rw [zde];exact dct h2];exact⟨_,_,_,rfl,rfl,.inl ⟨rfl,by decide⟩⟩
theorem zahd (N:Nat) (l:List Bool) (h:l.length<N) (hl:l.length<1000000000):zgi N l true=some (l.contains true):=by
 unfold zgi zao
 have:=zcm (f:=zao.r0 N) (fun i=>(l,true,(l.length:Int),(i:Int))) (fun i=>(l[i]?).bind fun x=>if x=true then some (i:Int)else none) l.length
  (fun i hi=>by
   have hx:=lge hi;simp only [zao.r0,zao.b0,zau,hx,obs,dct (show(i:Int)<(l.length:Int)by omega),ctr];rw [w6e];cases hb:l[i]<;>simp)
  (by simp only [zao.r0,zao.b0,dcf (show ¬(l.length:Int)<(l.length:Int)by omega),cfa]) h
 simp only [nc0]at this
 rw [this]
 simp only [obs]
 cases hfs:(List.range l.length).findSome? (fun i:Nat=>(l[i]?).bind fun x=>if x=true then some (i:Int)else none)with
 | some r=>
  simp only [zbq,obs];obtain⟨i,hi,hr⟩:=eof hfs;rw [Option.bind_eq_some_iff]at hr;obtain⟨x,hx,hr⟩:=hr;split at hr
  · rename_i hb;cases hr;have:l.contains true=true:=by rw [List.contains_iff_mem,←hb];exact lmg hx
    rw [this];simp
  · cases hr
 | none=>
  simp only [zbq,obs];rw [List.findSome?_eq_none_iff]at hfs;have:l.contains true=false:=by
   rw [Bool.eq_false_iff];intro hc;rw [List.contains_iff_mem]at hc;obtain⟨i,hi⟩:=List.getElem?_of_mem hc;have:=hfs i (by simp;exact(gei hi).1);rw [hi]at this;simp at this
  rw [this];rfl
theorem zyz (N:Nat) (s:Storage) (h:s.Tags.length≤64) (hN:2000<N):∃l,zd3 N s=some l∧(decide ((l.length:Int)>0))=s.Tags.contains true:=by
 unfold zd3
 obtain⟨s',h1,l,h2,h3,h4⟩:=zt4 (f:=zd3.r0 N) (fun i t=>∃l:List Int,t=(l,(i:Int),s)∧l.length≤i∧(decide ((l.length:Int)>0))=(s.Tags.take i).contains true) s.Tags.length
  (fun i t hi ht=>by
   obtain⟨l,rfl,h3,h4⟩:=ht;have hx:=lge hi;have rm:Nat.ble ((l.length+([(w6 ((i:Int)*16))]:List Int).length)*8) zae=true:=Nat.ble_eq_true_of_le (by unfold zae;simp;omega);simp only [zd3.r0,zd3.b0,zau,hx,obs,dct (show(i:Int)<(s.Tags.length:Int)by omega),ctr,rm];rw [w6e (n:=(i:Int)+1)];have tk:s.Tags.take (i+1)=s.Tags.take i++[s.Tags[i]]:=by rw [List.take_add_one,hx];rfl
   cases hb:s.Tags[i]with
   | true=>exact⟨_,rfl,_,rfl,by simp;omega,by rw [tk,hb];simp⟩
   | false=>exact⟨_,rfl,_,rfl,by omega,by rw [tk,hb,h4];simp⟩)
  (fun t ht=>by
   obtain⟨l,rfl,h3,h4⟩:=ht;simp only [zd3.r0,zd3.b0,dcf (show ¬(s.Tags.length:Int)<(s.Tags.length:Int)by omega),cfa];exact⟨_,rfl,l,rfl,h3,h4⟩) (N:=N) (by omega) (s:=([],0,s)) ⟨[],rfl,by simp,by simp⟩
 rw [h1,h2]
 exact⟨l,rfl,by rw [h4,List.take_length]⟩
theorem zvz {c:zH} (hc:Wft En 1048576 Ty.zH c):zgg c=some c:=by
 obtain⟨w1,w2,w3,w4,w5⟩:=zkx hc
 unfold zgg zg1 zj6
 rw [show Nat.ble (c.Storage.Tags.length*1) zae=true from Nat.ble_eq_true_of_le (by unfold zae;omega),show Nat.ble (c.zB.length*224) zae=true from Nat.ble_eq_true_of_le (by unfold zae;omega),show Nat.ble (c.zQ.length*32) zae=true from Nat.ble_eq_true_of_le (by unfold zae;omega)]
 rfl
theorem zo8 (N:Nat) (hN:1048600<N) (m:zK) {c:zH} (hc:Wft En 1048576 Ty.zH c):∃r,zj N m c=some r∧zam N m c=some r:=by
 obtain⟨e,he1,he2,he3⟩:=zru m
 obtain⟨i1,e1,e2,hs1,hs2,hs⟩:=zve N (by omega) c.Storage
 obtain⟨w1,w2,w3,w4,w5⟩:=zkx hc
 have f3:∀a b d:Int,za4 N [a,b,d]=some (zcu [a,b,d]):=fun a b d=>z0t N _ (by simp;omega) (by simp)
 unfold zj zam
 try simp only [eS,eM,eC]
 rw [he1,he2,hs1,hs2]
 simp only [obs]
 by_cases h0:e=0
 · subst h0;have hm:=he3 rfl;simp only [bsf,cfa];rcases hs with⟨rfl,hs⟩|⟨ok,htl,hs3,hs4⟩
   · rw [show(e1 !=0)=true by rw [zde];exact dct hs];exact⟨_,rfl,rfl⟩
   · obtain⟨l,hl1,hl2⟩:=zyz N c.Storage htl (by omega);rw [zahd N _ (by omega) (by omega),hl1];simp only [obs,zus,f3,orB,hl2]
     by_cases ht:c.Storage.Tags.contains true=true
     · rw [ht];refine⟨(0,22),?_,?_⟩
       · rcases hs3 with rfl|⟨rfl,_⟩
         · simp [zcu]
         · rfl
       · rcases hs4 with rfl|⟨rfl,_⟩
         · rfl
         · rfl
     · have ht':c.Storage.Tags.contains true=false:=by simpa using ht
       have hn:¬true∈c.Storage.Tags:=fun hh=>ht (List.contains_iff_mem.2 hh);obtain rfl:e1=0:=hs3.resolve_right fun hh=>hn hh.2;obtain rfl:e2=0:=hs4.resolve_right fun hh=>hn hh.2;rw [ht'];have hl1:=zaez N hN hm ok hc;have hl2:=zvm N hN hm ok hc
       by_cases hz:(c.zB.length:Int)=0
       · refine⟨(0,1),?_,?_⟩
         · simp [zcu,hz]
         · simp [hz]
       · cases hbig:(decide ((c.zB.length:Int)>240)||decide ((c.zQ.length:Int)>40))with
         | true=>
          refine⟨(0,2),?_,?_⟩
          · simp only [bsf,cfa,ctr,obs,zbx,dcf hz,zcu,if_true];rfl
          · simp only [bsf,cfa,ctr,obs,zbx,dcf hz]
         | false=>
          refine⟨zpd m c,?_,?_⟩
          · rw [←hl1];simp only [bsf,cfa,obs,zbx,dcf hz,zcu,if_true]
          · rw [←hl2];simp only [bsf,cfa,obs,zbx,dcf hz]
 · rw [show(e !=0)=true by rw [zde];exact dct h0];exact⟨_,rfl,rfl⟩
theorem z4b (N:Nat) (hN:1048600<N) {c:zH} (hc:Wft En 1048576 Ty.zH c):∃b,zfd N c=some b:=by
 obtain⟨w1,w2,w3,w4,w5⟩:=zkx hc
 unfold zfd
 have ft:∀s,∃b,zik s=some b:=fun s=>by
  unfold zik;cases decide ((s.Bytes.size:Int)≤1072)<;>exact⟨_,rfl⟩
 have e1:∀i:Nat,i≤c.zB.length→(cond (decide ((i:Int)<(c.zB.length:Int))) (some (decide ((i:Int)<244))) (some false))=some (decide ((i:Int)<(c.zB.length:Int))&&decide ((i:Int)<244)):=fun i _=>zm1 _ _
 have l1:=zt3 (f:=zfd.r0 N) (fun i t=>t=((i:Int),c)) (fun r=>True) (min c.zB.length 244)
  (fun i t hi ht=>by
   subst ht;have hlt:i<c.zB.length:=by omega
   have hx:=lge hlt;simp only [zfd.r0,zfd.b0,zm1,obs,dct (show(i:Int)<(c.zB.length:Int)by omega),dct (show(i:Int)<244 by omega),Bool.and_self,ctr,zau,hx,orB];rw [w6e (n:=(i:Int)+1)];cases(decide ((c.zB[i].Text.size:Int)>300)||decide ((c.zB[i].Other.size:Int)>300))with
   | true=>exact .inr ⟨_,rfl,trivial⟩
   | false=>exact .inl ⟨_,rfl,rfl⟩)
  (fun t ht=>by
   subst ht;have e:(decide (((min c.zB.length 244:Nat):Int)<(c.zB.length:Int))&&decide (((min c.zB.length 244:Nat):Int)<244))=false:=by
    by_cases h:c.zB.length<244
    · rw [dcf (show ¬((min c.zB.length 244:Nat):Int)<(c.zB.length:Int)by omega)];rfl
    · rw [dcf (show ¬((min c.zB.length 244:Nat):Int)<244 by omega)];simp
   simp only [zfd.r0,zfd.b0,zm1,obs,e,cfa];exact⟨_,rfl,rfl⟩) (N:=N) (by omega) (s:=(0,c)) rfl
 rcases l1 with⟨t,g1,_⟩|⟨r,g1,_⟩
 · rw [g1];simp only [obs,zbq];obtain⟨b,hb⟩:=ft t.2.Storage;rw [hb];simp only [obs,zm1];exact⟨_,rfl⟩
 · rw [g1];exact⟨_,rfl⟩
theorem zagv {m:zK} {c:zH} {n:Int} (h:zpd m c=(n,0)):∀x∈c.zB,zmi m c x=0:=by
 intro x hx
 refine cbc fun h0=> ?_
 unfold zpd at h
 obtain⟨i,hi⟩:=List.getElem?_of_mem hx
 cases hf:(List.range c.zB.length).findSome? (gI m c)with
 | none=>
  rw [List.findSome?_eq_none_iff]at hf;have:=hf i (by simp;exact(gei hi).1);unfold gI at this;rw [hi]at this;simp [h0]at this
 | some r=>
  rw [hf]at h;simp only at h;subst h;obtain⟨j,_,hj⟩:=eof hf;unfold gI at hj;rw [Option.bind_eq_some_iff]at hj;obtain⟨y,_,hy⟩:=hj
  by_cases h1:zmi m c y=0
  · simp [h1]at hy
  · rw [ifn h1]at hy;simp only [Option.some.injEq,Prod.mk.injEq]at hy;exact h1 hy.2
theorem z2t {α σ:Type} {f:σ→Option (Round Int σ)} (l:List α) (p:α→Bool) (S:Nat→σ) (hstep:∀i x,l[i]?=some x→f (S i)=some (cond (p x) (.result (i:Int)) (.again (S (i+1)))))
 (hl:f (S l.length)=some (.leave (S l.length))) {N:Nat} (hN:l.length<N):zp f N (S 0)=some (match l.findIdx? p with|some i=> .inl (i:Int)|none=> .inr (S l.length)):=by
 have:=zcm (f:=f) S (fun i=>(l[i]?).bind fun x=>if p x=true then some (i:Int)else none) l.length (fun i hi=>by
  have hx:=lge hi;rw [hstep i _ hx];simp only [hx,obs];cases hb:p l[i]<;>simp) hl hN
 rw [this]
 congr 1
 have key:(List.range l.length).findSome? (fun i:Nat=>(l[i]?).bind fun x=>if p x=true then some (i:Int)else none)=(l.findIdx? p).map (fun i=>(i:Int)):=by
  cases hf:l.findIdx? p with
  | none=>
   rw [List.findIdx?_eq_none_iff]at hf;rw [List.findSome?_eq_none_iff.2]
   · rfl
   · intro i hi;have hi':i<l.length:=by simpa using hi
     have h9:=hf _ (List.getElem_mem hi');rw [lge hi',obs,ifn (by simp [h9])]
  | some k=>
   rw [List.findIdx?_eq_some_iff_getElem]at hf;obtain⟨hk,h1,h2⟩:=hf;show _=some (k:Int);have:(List.range l.length).findSome? (fun i:Nat=>(l[i]?).bind fun x=>if p x=true then some (i:Int)else none)=some (k:Int):=by
    rw [List.findSome?_eq_some_iff];refine⟨List.range k,k,(List.range' (k+1) (l.length-(k+1))),?_,?_,?_⟩
    · apply List.ext_getElem
      · simp;omega
      · intro i h3 h4;rw [List.getElem_append];split
        · simp
        · rename_i h5;have h5':k≤i:=by simpa using h5
          by_cases e:i=k
          · subst e;simp
          · have:i-k≠0:=by omega
            rw [List.getElem_cons];simp [this];omega
    · rw [lge hk];simp [h1]
    · intro x hx;have hx':x<k:=by simpa using hx
      rw [lge (by omega)];have:=h2 x hx';simp [this]
   rw [this]
 rw [key]
 cases l.findIdx? p<;>rfl
theorem zzr {α:Type} (l:List α) (p:α→Bool):(l.findIdx? p).isSome=l.any p:=by
 cases h:l.findIdx? p with
 | none=>
  rw [List.findIdx?_eq_none_iff]at h
  symm
  simp only [Option.isSome_none,List.any_eq_false];intro x hx;simp [h x hx]
 | some k=>
  rw [List.findIdx?_eq_some_iff_getElem]at h;obtain⟨hk,h1,h2⟩:=h
  symm
  simp only [Option.isSome_some,List.any_eq_true];exact⟨_,List.getElem_mem hk,h1⟩
theorem coll {α β σ:Type} {f:σ→Option (Stp σ)} (l:List α) (g:α→Option β) (S:Nat→List β→σ) (hstep:∀i x acc,l[i]?=some x→acc.length≤i→f (S i acc)=some (.again (S (i+1) (acc++(g x).toList))))
 (hl:∀acc,f (S l.length acc)=some (.leave (S l.length acc))) {N:Nat} (hN:l.length<N):zi f N (S 0 [])=some (S l.length (l.filterMap g)):=by
 have e0:∀i,((l.take i).filterMap g).length≤i:=fun i=>Nat.le_trans (List.length_filterMap_le _ _) (by simp;omega)
 have:=zdb (f:=f) (fun i=>S i ((l.take i).filterMap g)) l.length (fun i hi=>by
  have hx:=lge hi;rw [hstep i _ _ hx (e0 i),List.take_add_one,hx,List.filterMap_append]
  congr 3) (hl _) hN
 simpa using this
theorem zabe {α σ:Type} {f:σ→Option (Stp σ)} (l:List α) (p:α→Bool) (S:List α→Nat→Nat→σ)
 (hstep:∀s i j x,s[j]?=some x→i<j→s.length=l.length→x∈l→f (S s i j)=some (.again (cond (p x) (S s i (j+1)) (S (s.set i x) (i+1) (j+1)))))
 (hl:∀s i,s.length=l.length→i≤l.length→f (S s i l.length)=some (.leave (S s i l.length))) {k:Nat} (hk:l.findIdx? p=some k) {N:Nat} (hN:l.length<N):
 ∃s i,zi f N (S l k (k+1))=some (S s i l.length)∧s.length=l.length∧i≤l.length∧s.take i=l.filter (fun x=> !p x):=by
 rw [List.findIdx?_eq_some_iff_getElem]at hk
 obtain⟨hkl,h1,h2⟩:=hk
 have first:l.take k=(l.take (k+1)).filter (fun x=> !p x):=by
  rw [List.take_add_one,lge hkl,List.filter_append];simp only [Option.toList_some,List.filter_cons,h1,bnt,Bool.false_eq_true,if_false,List.filter_nil,List.append_nil]
  symm
  rw [List.filter_eq_self];intro x hx;obtain⟨j,hj,rfl⟩:=List.mem_take_iff_getElem.1 hx;have:=h2 j (by omega);simpa using this
 let I:Nat→σ→Prop:=fun t q=>∃s i,q=S s i (k+1+t)∧s.length=l.length∧i<k+1+t∧(∀j,k+1+t≤j→s[j]?=l[j]?)∧s.take i=(l.take (k+1+t)).filter (fun x=> !p x)
 obtain⟨q,hq,hI⟩:=zt4 (f:=f) I (l.length-(k+1)) (by
  rintro t q ht ⟨s,i,rfl,hs,hi,hsame,htake⟩
  have hlt:k+1+t<l.length:=by omega
  have hx:=lge hlt;have hsx:s[k+1+t]?=some l[k+1+t]:=by rw [hsame _ (Nat.le_refl _),hx]
  refine⟨_,hstep s i _ _ hsx hi hs (List.getElem_mem hlt),?_⟩;cases hp:p l[k+1+t]with
  | true=>
   refine⟨s,i,rfl,hs,by omega,fun j hj=>hsame j (by omega),?_⟩;rw [htake,←Nat.add_assoc,List.take_add_one,hx,List.filter_append];simp [hp]
  | false=>
   refine⟨s.set i l[k+1+t],i+1,rfl,by simpa using hs,by omega,fun j hj=> ?_,?_⟩
   · rw [List.getElem?_set_ne (by omega)];exact hsame j (by omega)
   · rw [List.take_add_one,List.getElem?_set_self (by omega),List.take_set_of_le (Nat.le_refl _),htake,←Nat.add_assoc,List.take_add_one,hx,List.filter_append];simp [hp])
  (by
   rintro q ⟨s,i,rfl,hs,hi,hsame,htake⟩
   have e:k+1+(l.length-(k+1))=l.length:=by omega
   rw [e]at hi htake⊢;exact⟨_,hl s i hs (by omega),s,i,by rw [e],hs,by omega,fun j hj=>hsame j hj,by rw [e];exact htake⟩)
  (N:=N) (by omega) (s:=S l k (k+1)) ⟨l,k,rfl,rfl,by omega,fun j _=>rfl,first⟩
 obtain⟨s,i,rfl,hs,hi,hsame,htake⟩:=hI
 have e:k+1+(l.length-(k+1))=l.length:=by omega
 rw [e]at hq hi htake
 refine⟨s,i,hq,hs,by omega,?_⟩
 rw [htake,List.take_length]
theorem zt7 {α:Type} {l:List α} {p:α→Bool} (h:l.findIdx? p=none):l.filter (fun x=> !p x)=l:=by
 rw [List.findIdx?_eq_none_iff]at h
 rw [List.filter_eq_self]
 intro x hx
 simp [h x hx]
def zry (a b:zD):Bool:=a.Register==b.Register&&(a.zF.Kind==b.zF.Kind&&(a.zF.Length==b.zF.Length&&(a.zF.Scale==b.zF.Scale&&a.Offset==b.Offset)))
theorem z4c {a b:zD}:zry a b=true↔a=b:=by
 obtain⟨r,⟨k,l,s⟩,o⟩:=a
 obtain⟨r',⟨k',l',s'⟩,o'⟩:=b
 simp only [zry,Bool.and_eq_true,beq_iff_eq,zD.mk.injEq,DataType.mk.injEq,and_assoc]
theorem zac9 (a b:zD):zdq [(a.Register==b.Register),(a.zF.Kind==b.zF.Kind),(a.zF.Length==b.zF.Length),(a.zF.Scale==b.zF.Scale),(a.Offset==b.Offset)]=zry a b:=by
 simp only [zdq,zry,List.all_cons,List.all_nil,List.foldr_cons,List.foldr_nil,Bool.and_true,id]
def zot (l:List zD) (x:zD):Bool:=l.any (zry x)
theorem zsn {l:List zD} {x:zD}:zot l x=true↔x∈l:=by
 unfold zot
 rw [List.any_eq_true]
 constructor
 · rintro ⟨y,hy,h⟩
   rw [z4c]at h;subst h;exact hy
 · intro h;exact⟨x,h,z4c.2 rfl⟩
theorem ztp (N:Nat) (l:List zD) (x:zD) (h:l.length<N) (hl:l.length<1000000000):zbd N l x=some (zot l x):=by
 unfold zbd zaz
 have:=z2t (f:=zaz.r0 N) l (zry x) (fun i=>(l,(l.length:Int),(i:Int),x)) (fun i y hy=>by
  have hi:=(gei hy).1;simp only [zaz.r0,zaz.b0,zau,hy,obs,dct (show(i:Int)<(l.length:Int)by omega),ctr,zac9];rw [w6e];cases zry x y<;>simp)
  (by simp only [zaz.r0,zaz.b0,dcf (show ¬(l.length:Int)<(l.length:Int)by omega),cfa]) h
 simp only [nc0]at this
 rw [this]
 have e:=zzr l (zry x)
 unfold zot
 cases hf:l.findIdx? (zry x)with
 | none=>rw [hf]at e;rw [←e];simp [zbq]
 | some k=>rw [hf]at e;rw [←e];simp [zbq]
theorem z0y (s:List zD) (i:Nat) (n:Nat) (hs:s.length=n) (hi:i≤n) (z:zD):
 (if 0≤(i:Int)∧(i:Int)≤(s.length:Int)then(if 0≤(i:Int)∧(i:Int)≤((s.take (i:Int).toNat++List.replicate (s.length-(i:Int).toNat) z).length:Int)then
  (if 0≤(0:Int)∧(0:Int)≤(i:Int)then(some (((s.take (i:Int).toNat++List.replicate (s.length-(i:Int).toNat) z).drop ((0:Int).toNat)).take ((i:Int).toNat-(0:Int).toNat)))else none)else none)else none)=some (s.take i):=by
 have h1:(s.take i++List.replicate (s.length-i) z).length=n:=by simp;omega
 rw [ifp,ifp (by rw [itn,h1];omega),ifp]
 congr 1
 simp only [itn,Int.toNat_zero,dr0,Nat.sub_zero]
 rw [List.take_append_of_le_length (by simp;omega),List.take_take,Nat.min_self]
theorem z3e (l:List zD) (h:l.length≤1000000):zc6 40 l=some l:=by
 unfold zc6
 rw [show Nat.ble (l.length*40) zae=true from Nat.ble_eq_true_of_le (by show l.length*40≤2^46;omega)]
 rfl
theorem zr2 {n:Nat} (h:n≤1000000000):Nat.ble (n*40) zae=true:=Nat.ble_eq_true_of_le (by show n*40≤2^46;omega)
theorem ble8 {n:Nat} (h:n≤1000000):Nat.ble (n*8) zae=true:=Nat.ble_eq_true_of_le (by show n*8≤2^46;omega)
theorem ble1 {n:Nat} (h:n≤1000000):Nat.ble (n*1) zae=true:=Nat.ble_eq_true_of_le (by show n*1≤2^46;omega)
theorem zam3 {n:Nat} (h:n≤1000000):Nat.ble (n*24) zae=true:=Nat.ble_eq_true_of_le (by show n*24≤2^46;omega)
theorem zahq (N:Nat) (l:List zD) (r:Int) (p:zD→Bool) (hp:∀x∈l,zff x r=some (p x)) (h:l.length<N) (hl:l.length≤1000000):zn N l r=some (l.filter fun f=> !(p f)):=by
 unfold zn zx
 have:=z2t (f:=zx.r0 N) l p (fun i=>(l,(l.length:Int),(i:Int),r)) (fun i y hy=>by
  have hi:=(gei hy).1;have hc:=hp y (lmg hy);simp only [zx.r0,zx.b0,hc,zau,hy,obs,dct (show(i:Int)<(l.length:Int)by omega),ctr];rw [w6e];cases p y<;>simp)
  (by simp only [zx.r0,zx.b0,dcf (show ¬(l.length:Int)<(l.length:Int)by omega),cfa]) h
 simp only [nc0]at this
 rw [this]
 cases hf:l.findIdx? p with
 | none=>simp [zbq,zt7 hf]
 | some k=>
  have hk:k<l.length:=by
   rw [List.findIdx?_eq_some_iff_getElem]at hf;exact hf.1
  obtain⟨s,i,h1,h2,h3,h4⟩:=zabe (f:=zn.r0 N) l p (fun s i j=>(s,(i:Int),(j:Int),r)) (fun s i j x hx hij hs hm=>by
   have hj:=(gei hx).1;have hxi:∃y,s[i]?=some y:=⟨_,lge (by omega)⟩;obtain⟨y,hy⟩:=hxi;have hc:=hp x hm;simp only [zn.r0,zn.b0,hc,dct (show(j:Int)<(s.length:Int)by omega),ctr,ifp (show 0≤(j:Int)by omega),ifp (show(j:Int)<(s.length:Int)by omega),
    ifp (show 0≤(i:Int)by omega),ifp (show(i:Int)<(s.length:Int)by omega),itn,hx,hy,obs]
   rw [w6e (n:=(i:Int)+1),w6e (n:=(j:Int)+1)];cases p x<;>simp)
   (fun s i hs hi=>by simp only [zn.r0,zn.b0,hs,dcf (show ¬(l.length:Int)<(l.length:Int)by omega),cfa]) hf h
  have hne:((k:Int)== -1)=false:=by rw [zbx];simp
  simp only [zbq,obs,hne,cfa];rw [w6e];have h1:zi (zn.r0 N) N (l,(k:Int),(k:Int)+1,r)=some (s,(i:Int),(l.length:Int),r):=by
   have:=h1;simpa using this
  rw [h1];simp only [obs];rw [z0y s i l.length h2 h3,h4]
theorem zaho (N:Nat) (l:List zD) (p:zD→Bool) (hp:∀x∈l,zgu x=some (p x)) (h:l.length<N) (hl:l.length≤1000000):zl N l=some (l.filter fun f=> !(p f)):=by
 unfold zl zu
 have:=z2t (f:=zu.r0 N) l p (fun i=>(l,(l.length:Int),(i:Int))) (fun i y hy=>by
  have hi:=(gei hy).1;have hc:=hp y (lmg hy);simp only [zu.r0,zu.b0,hc,zau,hy,obs,dct (show(i:Int)<(l.length:Int)by omega),ctr];rw [w6e];cases p y<;>simp)
  (by simp only [zu.r0,zu.b0,dcf (show ¬(l.length:Int)<(l.length:Int)by omega),cfa]) h
 simp only [nc0]at this
 rw [this]
 cases hf:l.findIdx? p with
 | none=>simp [zbq,zt7 hf]
 | some k=>
  have hk:k<l.length:=by
   rw [List.findIdx?_eq_some_iff_getElem]at hf;exact hf.1
  obtain⟨s,i,h1,h2,h3,h4⟩:=zabe (f:=zl.r0 N) l p (fun s i j=>(s,(i:Int),(j:Int))) (fun s i j x hx hij hs hm=>by
   have hj:=(gei hx).1;have hxi:∃y,s[i]?=some y:=⟨_,lge (by omega)⟩;obtain⟨y,hy⟩:=hxi;have hc:=hp x hm;simp only [zl.r0,zl.b0,hc,dct (show(j:Int)<(s.length:Int)by omega),ctr,ifp (show 0≤(j:Int)by omega),ifp (show(j:Int)<(s.length:Int)by omega),
    ifp (show 0≤(i:Int)by omega),ifp (show(i:Int)<(s.length:Int)by omega),itn,hx,hy,obs]
   rw [w6e (n:=(i:Int)+1),w6e (n:=(j:Int)+1)];cases p x<;>simp)
   (fun s i hs hi=>by simp only [zl.r0,zl.b0,hs,dcf (show ¬(l.length:Int)<(l.length:Int)by omega),cfa]) hf h
  have hne:((k:Int)== -1)=false:=by rw [zbx];simp
  simp only [zbq,obs,hne,cfa];rw [w6e];have h1:zi (zl.r0 N) N (l,(k:Int),(k:Int)+1)=some (s,(i:Int),(l.length:Int)):=by
   have:=h1;simpa using this
  rw [h1];simp only [obs];rw [z0y s i l.length h2 h3,h4]
theorem zahp (N:Nat) (l:List zD) (a b:Int) (p:zD→Bool) (hp:∀x∈l,zfc N x a b=some (p x)) (h:l.length<N) (hl:l.length≤1000000):zm N l a b=some (l.filter fun f=> !(p f)):=by
 unfold zm zw
 have:=z2t (f:=zw.r0 N) l p (fun i=>(l,(l.length:Int),(i:Int),a,b)) (fun i y hy=>by
  have hi:=(gei hy).1;have hc:=hp y (lmg hy);simp only [zw.r0,zw.b0,hc,zau,hy,obs,dct (show(i:Int)<(l.length:Int)by omega),ctr];rw [w6e];cases p y<;>simp)
  (by simp only [zw.r0,zw.b0,dcf (show ¬(l.length:Int)<(l.length:Int)by omega),cfa]) h
 simp only [nc0]at this
 rw [this]
 cases hf:l.findIdx? p with
 | none=>simp [zbq,zt7 hf]
 | some k=>
  have hk:k<l.length:=by
   rw [List.findIdx?_eq_some_iff_getElem]at hf;exact hf.1
  obtain⟨s,i,h1,h2,h3,h4⟩:=zabe (f:=zm.r0 N) l p (fun s i j=>(s,(i:Int),(j:Int),a,b)) (fun s i j x hx hij hs hm=>by
   have hj:=(gei hx).1;have hxi:∃y,s[i]?=some y:=⟨_,lge (by omega)⟩;obtain⟨y,hy⟩:=hxi;have hc:=hp x hm;simp only [zm.r0,zm.b0,hc,dct (show(j:Int)<(s.length:Int)by omega),ctr,ifp (show 0≤(j:Int)by omega),ifp (show(j:Int)<(s.length:Int)by omega),
    ifp (show 0≤(i:Int)by omega),ifp (show(i:Int)<(s.length:Int)by omega),itn,hx,hy,obs]
   rw [w6e (n:=(i:Int)+1),w6e (n:=(j:Int)+1)];cases p x<;>simp)
   (fun s i hs hi=>by simp only [zm.r0,zm.b0,hs,dcf (show ¬(l.length:Int)<(l.length:Int)by omega),cfa]) hf h
  have hne:((k:Int)== -1)=false:=by rw [zbx];simp
  simp only [zbq,obs,hne,cfa];rw [w6e];have h1:zi (zm.r0 N) N (l,(k:Int),(k:Int)+1,a,b)=some (s,(i:Int),(l.length:Int),a,b):=by
   have:=h1;simpa using this
  rw [h1];simp only [obs];rw [z0y s i l.length h2 h3,h4]
theorem zro (N:Nat) (l:List zD) (r:Int) (h:l.length<N) (hl:l.length≤1000000):zei N l r=some (l.filter fun f=> !(f.Register==r)):=by
 unfold zei
 rw [z3e l hl,obs,zahq N l r (fun f=>f.Register==r) (fun x _=>rfl) h hl]
 rfl
theorem zage (N:Nat) (l:List zD) (h:l.length<N) (hl:l.length≤1000000):zjz N l=some (l.filter fun f=>f.Offset== -1):=by
 unfold zjz
 rw [z3e l hl,obs,zaho N l (fun f=>f.Offset != -1) (fun x _=>rfl) h hl]
 simp only [obs]
 congr 2
 funext f
 cases he:(f.Offset== -1)<;>simp [bne,he]
theorem z2s (N:Nat) (hN:10<N) {t:DataType} (h:zce t=0):zfq N t=some (szE t):=by
 unfold zfq zfr
 rw [znw N hN,h]
 simp [zy4 h]
def apB (a b:Int) (x:zD):Bool:=(x.Offset != -1&&decide (x.Offset<w6 (a+b)))&&decide (a<w6 (x.Offset+szE x.zF))
theorem z5f (N:Nat) (hN:10<N) (l:List zD) (a b:Int) (ht:∀x∈l,zce x.zF=0) (h:l.length<N) (hl:l.length≤1000000):zgx N l a b=some (l.filter fun f=> !apB a b f):=by
 unfold zgx
 rw [z3e l hl,obs,zahp N l a b (apB a b) (fun x hx=> ?_) h hl]
 · rfl
 · unfold zfc apB;rw [z2s N hN (ht x hx)];cases(x.Offset != -1)<;>cases decide (x.Offset<w6 (a+b))<;>simp
theorem zam1 {α β σ:Type} {f:σ→Option (Stp σ)} (l:List α) (g:α→List β) (M:Nat) (hM:∀x∈l,(g x).length≤M) (S:Nat→List β→σ) (a0:List β)
 (hstep:∀i x acc,l[i]?=some x→acc.length≤a0.length+i*M→f (S i acc)=some (.again (S (i+1) (acc++g x))))
 (hl:∀acc,f (S l.length acc)=some (.leave (S l.length acc))) {N:Nat} (hN:l.length<N):zi f N (S 0 a0)=some (S l.length (a0++l.flatMap g)):=by
 have e0:∀i,((l.take i).flatMap g).length≤i*M:=by
  intro i
  induction i with
  | zero=>simp
  | succ i ih=>
   rw [List.take_add_one,List.flatMap_append,lna,Nat.succ_mul];refine Nat.add_le_add ih ?_;cases hx:l[i]? with
   | none=>simp
   | some x=>simpa using hM x (lmg hx)
 have:=zdb (f:=f) (fun i=>S i (a0++(l.take i).flatMap g)) l.length (fun i hi=>by
  have hx:=lge hi;rw [hstep i _ _ hx (by rw [lna];have:=e0 i;omega),List.take_add_one,hx,List.flatMap_append];simp) (hl _) hN
 simpa using this
def zko (a r:Int) (x:zD):Option zD:=if x.Register=a then some ⟨r,x.zF,x.Offset⟩else none
theorem z5g (N:Nat) (l:List zD) (a r:Int) (h:l.length<N) (hl:l.length≤100000):zb1 N l a r=some (l.filterMap (zko a r)):=by
 unfold zb1
 have:=coll (f:=zb1.r0 N) l (zko a r) (fun i acc=>(a,r,acc,l,(l.length:Int),(i:Int))) (fun i x acc hx hacc=>by
  have hi:=(gei hx).1;simp only [zb1.r0,zb1.b0,zau,hx,obs,dct (show(i:Int)<(l.length:Int)by omega),ctr,lnc,ln0,zr2 (show acc.length+(0+1)≤1000000000 by omega)];rw [w6e,zbx];unfold zko
  by_cases e:x.Register=a<;>simp [e])
  (fun acc=>by simp only [zb1.r0,zb1.b0,dcf (show ¬(l.length:Int)<(l.length:Int)by omega),cfa]) h
 simp only [nc0]at this
 rw [this]
 rfl
def z2r (a b:DataType):Bool:=a.Kind==b.Kind&&(a.Length==b.Length&&a.Scale==b.Scale)
theorem z49 {a b:DataType}:z2r a b=true↔a=b:=by
 obtain⟨k,l,s⟩:=a
 obtain⟨k',l',s'⟩:=b
 simp only [z2r,Bool.and_eq_true,beq_iff_eq,DataType.mk.injEq]
theorem zad5 (a b:DataType):zdq [(a.Kind==b.Kind),(a.Length==b.Length),(a.Scale==b.Scale)]=z2r a b:=by
 simp only [zdq,z2r,Bool.and_true]
def woL (r:Int) (l:List zD):List zD:=l.filter fun f=> !(f.Register==r)
def zmh (x:zA) (l:List zD) (g:zD):List zD:=if z2r g.zF x.zF&&g.Offset==x.Place.Offset then l.filterMap (zko g.Register x.R)else []
def zs6 (x:zA) (l:List zD):List zD:=
 (woL x.R l++[⟨x.R,x.zF,-1⟩])++(if x.Place.Based then []else [⟨x.R,x.zF,x.Place.Offset⟩]++l.flatMap (zmh x l))
theorem zabz (N:Nat) (x:zA) (l:List zD) (h:l.length<N) (hl:l.length≤5000):zcd N x l=some (zs6 x l):=by
 unfold zcd
 rw [zro N l x.R h (by omega)]
 have hw:(l.filter fun f=> !(f.Register==x.R)).length≤l.length:=List.length_filter_le _ _
 simp only [obs,lna,lnc,ln0]
 rw [zr2 (by omega),zr2 (by omega)]
 simp only [ctr]
 unfold zs6 woL
 cases hb:x.Place.Based with
 | true=>simp
 | false=>
  simp only [cfa];have:=zam1 (f:=zcd.r0 N) l (zmh x l) 5000 (fun g _=>by
   unfold zmh;split
   · exact Nat.le_trans (List.length_filterMap_le _ _) hl
   · simp) (fun i acc=>(l,acc,l,(l.length:Int),(i:Int),x)) (((l.filter fun f=> !(f.Register==x.R))++[⟨x.R,x.zF,-1⟩])++[⟨x.R,x.zF,x.Place.Offset⟩]) (fun i y acc hy hacc=>by
   have hi:=(gei hy).1;simp only [zcd.r0,zcd.b0,zau,hy,obs,dct (show(i:Int)<(l.length:Int)by omega),ctr,zad5];rw [zm1,obs,z5g N l y.Register x.R h (by omega),w6e];have hla:(l.filterMap (zko y.Register x.R)).length≤l.length:=List.length_filterMap_le _ _;have hi2:i*5000≤5000*5000:=Nat.mul_le_mul_right 5000 (by omega);simp only [lna,lnc,ln0]at hacc;unfold zmh;cases hc:(z2r y.zF x.zF&&y.Offset==x.Place.Offset)with
   | true=>simp only [ctr,obs,if_true,zr2 (show acc.length+(l.filterMap (zko y.Register x.R)).length≤1000000000 by omega)];rfl
   | false=>simp)
   (fun acc=>by simp only [zcd.r0,zcd.b0,dcf (show ¬(l.length:Int)<(l.length:Int)by omega),cfa]) h
  simp only [nc0]at this;rw [this];simp
def zxb (x:zA) (l:List zD):List zD:=
 if x.Place.Based then l.filter fun f=>f.Offset== -1
 else(l.filter fun f=> !apB x.Place.Offset (szE x.zF) f)++(if x.Op==1&&zot l ⟨x.R,x.zF,-1⟩then [⟨x.R,x.zF,x.Place.Offset⟩]else [])
theorem z99 (N:Nat) (hN:10<N) (x:zA) (l:List zD) (htx:zce x.zF=0) (ht:∀x∈l,zce x.zF=0) (h:l.length<N) (hl:l.length≤5000):zh2 N x l=some (zxb x l):=by
 unfold zh2 zxb
 rw [zage N l h (by omega),z2s N hN htx]
 cases hb:x.Place.Based with
 | true=>simp
 | false=>
  simp only [cfa,obs];rw [z5f N hN l _ _ ht h (by omega),ztp N l _ h (by omega)];have hw:(l.filter fun f=> !apB x.Place.Offset (szE x.zF) f).length≤l.length:=List.length_filter_le _ _;simp only [obs,zm1,lnc,ln0,zr2 (show(l.filter fun f=> !apB x.Place.Offset (szE x.zF) f).length+(0+1)≤1000000000 by omega)];cases(x.Op==1&&zot l ⟨x.R,x.zF,-1⟩)<;>simp
structure InsX (m:zK) (c:zH) (x:zA):Prop where
 op:0≤x.Op∧x.Op≤26
 r:x.Op=0∨x.Op=1∨x.Op=2∨x.Op=3∨x.Op=4∨x.Op=21→0≤x.R∧x.R<m.Registers
 a:x.Op=3→0≤x.A∧x.A<m.Registers
 ty:x.Op=0∨x.Op=1∨x.Op=4∨x.Op=9∨x.Op=10→zce x.zF=0
 kd:x.Op=0∨x.Op=1∨x.Op=4→x.zF.Kind≠0∧x.zF.Kind≠4
 pl:x.Op=0∨x.Op=1∨x.Op=9∨x.Op=10→x.Place.Based=false→0≤x.Place.Offset∧x.Place.Offset+szE x.zF≤(c.Storage.Bytes.size:Int)
 pt:x.Op=14∨x.Op=15∨x.Op=16→0≤x.Pointer∧x.Pointer<(c.Storage.Bytes.size:Int)
 tg:x.Op=6∨x.Op=7∨x.Op=8∨x.Op=18→0≤x.Target∧x.Target<(c.zB.length:Int)
theorem zui {t:DataType} (h:zd5 t 1=0):zce t=0∧t.Kind≠0∧t.Kind≠4:=by
 unfold zd5 at h
 rw [ifn (by decide)]at h
 by_cases h0:zce t=0
 · rw [ifp h0]at h;split at h
   · cases h
   · rename_i h1;refine⟨h0,?_⟩;have h2:inB t.Kind 1 3=true:=by
      refine cbc fun h2=>h1 (.inl ⟨rfl,fun h3=>h2 (zay.2 h3)⟩)
     have:=zay.1 h2;omega
 · rw [ifn h0]at h;exact absurd h h0
theorem z41 {m:zK} {c:zH} {x:zA} (h:zmi m c x=0):InsX m c x:=by
 unfold zmi at h
 by_cases hop:inB x.Op 0 26=true
 · obtain⟨f,u,hf,hu,ag,_⟩:=zyb x hop;rw [ifp hop,hu]at h;have h':zv9 m c x u=0:=h;unfold zv9 at h';cases he:znj x u with
   | true=>rw [he]at h';cases h'
   | false=>
    rw [he]at h';simp only [cfa]at h';cases hl:zpp m x with
    | true=>rw [hl]at h';cases h'
    | false=>
     rw [hl]at h';simp only [cfa]at h'
     by_cases h1:zd5 x.zF u.zF=0
     · by_cases h2:zd5 x.Second u.Second=0
       · rw [ifn,ifn]at h';cases hr:zmd m c x u with
         | true=>rw [hr]at h';simp at h'
         | false=>
          unfold zmd at hr;simp only [Bool.or_eq_false_iff]at hr;obtain⟨r1,r2,r3,r4,r5,r6,r7,r8⟩:=hr;rw [List.any_eq_false]at r1;have reg:∀i,i∈znb x u→0≤i∧i<m.Registers:=fun i hi=>by
           have:=r1 i hi;unfold zgr at this;have h4:inB i 0 (m.Registers-1)=true:=by simpa using this
           have:=zay.1 h4;omega
          have andF:∀{p q:Bool},(p&& !q)=false→p=true→q=true:=fun {p q} h hp=>by subst hp;simpa using h
          have hu0:∀k,x.Op=k→∀w,zhw ⟨k,x.R,x.A,x.B,x.zM,x.Place,x.From,x.zF,x.Second,x.Half,x.zO,x.Number,x.Text,x.Other,x.Mask,x.Target,x.Pointer,x.Source⟩=some w→u=w:=by
           rintro k rfl w hw
           have:zhw x=some w:=hw;rw [hu]at this;exact Option.some.inj this
          have place:u.Place=true→(x.Op≠4)→x.Place.Based=false→zce x.zF=0→0≤x.Place.Offset∧x.Place.Offset+szE x.zF≤(c.Storage.Bytes.size:Int):=fun hp h4 hb ht=>by
           have:=andF r6 hp;unfold zc8 at this;rw [hb]at this;have hpl:zd4 x=x.zF:=by unfold zd4;rw [ifn h4]
           rw [hpl]at this;have:=zay.1 (by simpa using this);omega
          have pnt:u.Pointer=true→0≤x.Pointer∧x.Pointer<(c.Storage.Bytes.size:Int):=fun hp=>by
           have:=andF r4 hp;unfold ze7 at this;simp only [Bool.and_eq_true,decide_eq_true_eq]at this;omega
          have op4:x.Op=4→u.R=true∧u.zF=1:=fun e=>by
           cases hi:x.zO with
           | true=>have:=hu0 4 e _ (by rw [hi];rfl);subst this;exact⟨rfl,rfl⟩
           | false=>have:=hu0 4 e _ (by rw [hi];rfl);subst this;exact⟨rfl,rfl⟩
          have hR:u.R=true→0≤x.R∧x.R<m.Registers:=fun hx=>reg _ (by unfold znb;rw [hx];simp);have hA:u.A=true→0≤x.A∧x.A<m.Registers:=fun hx=>reg _ (by unfold znb;rw [hx];simp);have tyy:x.Op=0∨x.Op=1∨x.Op=4∨x.Op=9∨x.Op=10→zce x.zF=0:=by
           rintro (e|e|e|e|e)
           · have:=hu0 0 e _ rfl;subst this;exact(zui h1).1
           · have:=hu0 1 e _ rfl;subst this;exact(zui h1).1
           · rw [(op4 e).2]at h1;exact(zui h1).1
           · have:=hu0 9 e _ rfl;subst this;exact znq h1 (by decide)
           · have:=hu0 10 e _ rfl;subst this;exact znq h1 (by decide)
          exact {
           op:=zay.1 hop
           r:=by
            rintro (e|e|e|e|e|e)
            · have:=hu0 0 e _ rfl;subst this;exact hR rfl
            · have:=hu0 1 e _ rfl;subst this;exact hR rfl
            · have:=hu0 2 e _ rfl;subst this;exact hR rfl
            · have:=hu0 3 e _ rfl;subst this;exact hR rfl
            · exact hR (op4 e).1
            · have:=hu0 21 e _ rfl;subst this;exact hR rfl
           a:=fun e=>by have:=hu0 3 e _ rfl;subst this;exact hA rfl
           ty:=tyy
           kd:=by
            rintro (e|e|e)
            · have:=hu0 0 e _ rfl;subst this;exact(zui h1).2
            · have:=hu0 1 e _ rfl;subst this;exact(zui h1).2
            · rw [(op4 e).2]at h1;exact(zui h1).2
           pl:=by
            rintro (e|e|e|e) hb
            · have ht:=tyy (by omega);have:=hu0 0 e _ rfl;subst this;exact place rfl (by omega) hb ht
            · have ht:=tyy (by omega);have:=hu0 1 e _ rfl;subst this;exact place rfl (by omega) hb ht
            · have ht:=tyy (by omega);have:=hu0 9 e _ rfl;subst this;exact place rfl (by omega) hb ht
            · have ht:=tyy (by omega);have:=hu0 10 e _ rfl;subst this;exact place rfl (by omega) hb ht
           pt:=by
            rintro (e|e|e)
            · have:=hu0 14 e _ rfl;subst this;exact pnt rfl
            · have:=hu0 15 e _ rfl;subst this;exact pnt rfl
            · have:=hu0 16 e _ rfl;subst this;exact pnt rfl
           tg:=by
            have tgt:u.Target=true→0≤x.Target∧x.Target<(c.zB.length:Int):=fun hx=>by have:=zay.1 (andF r2 hx);omega
            rintro (e|e|e|e)
            · have:=hu0 6 e _ rfl;subst this;exact tgt rfl
            · have:=hu0 7 e _ rfl;subst this;exact tgt rfl
            · have:=hu0 8 e _ rfl;subst this;exact tgt rfl
            · have:=hu0 18 e _ rfl;subst this;exact tgt rfl}
       · rw [ifn,ifp h2]at h';exact absurd h' h2
     · rw [ifp h1]at h';exact absurd h' h1
 · rw [ifn hop]at h;cases h
structure FctV (m:zK) (c:zH) (f:zD):Prop where
 r:0≤f.Register∧f.Register<m.Registers
 ty:zce f.zF=0
 kd:f.zF.Kind≠0∧f.zF.Kind≠4
 of:f.Offset= -1∨(0≤f.Offset∧f.Offset+szE f.zF≤(c.Storage.Bytes.size:Int))
theorem z98 {t:DataType} (h:zce t=0):0≤t.Scale∧t.Scale≤15:=by
 unfold zce at h
 split at h
 · split at h
   · split at h
     · omega
     · cases h
   · cases h
 · split at h
   · split at h
     · rename_i h1;split at h
       · rename_i h2;have:=zay.1 h1;have:=zay.1 h2;omega
       · cases h
     · cases h
   · split at h
     · split at h
       · split at h
         · rename_i h2;have:=zay.1 h2;omega
         · cases h
       · cases h
     · split at h
       · split at h
         · split at h
           · omega
           · cases h
         · cases h
       · cases h
theorem zaju {m:zK} {c:zH} (hm:m.Registers≤8) (hs:c.Storage.Bytes.size≤1024) {f:zD} (h:FctV m c f):Proofs.Tryz.okF f=true:=by
 rw [Proofs.Tryz.okF_iff]
 have h1:=h.r
 have h3:=h.of
 have h4:=zh4 h.ty
 have h2:=z98 h.ty
 rcases zl6 h.ty with⟨q0,q1,q2⟩|⟨q0|q0,q1,q2⟩|⟨q0,q1|q1⟩|⟨q0,q1⟩<;>refine⟨?_,?_,?_,?_,?_⟩<;>omega
theorem zv1 {l:List zD} (h:∀f∈l,Proofs.Tryz.okF f=true) (hl:l.length≤1000000000):zpy Proofs.Tryz.ltF Proofs.Tryz.okF l=some (ordD Proofs.Tryz.ltF l):=by
 unfold zpy
 rw [List.all_eq_true.2 h,zr2 hl]
 rfl
def zku (x:zA) (l:List zD):List zD:=
 if x.Op=0 then ordD Proofs.Tryz.ltF (zs6 x l)
 else if x.Op=4 then ordD Proofs.Tryz.ltF (woL x.R l++[⟨x.R,x.zF,-1⟩])
 else if x.Op=2∨x.Op=21 then woL x.R l
 else if x.Op=3 then ordD Proofs.Tryz.ltF (woL x.R l++l.filterMap (zko x.A x.R))
 else if x.Op=1∨x.Op=9∨x.Op=10 then ordD Proofs.Tryz.ltF (zxb x l)
 else if x.Op=14∨x.Op=15∨x.Op=16 then l.filter fun f=> !apB x.Pointer 16 f
 else l
theorem zys {l:List zD} {a r:Int} {f:zD}:f∈l.filterMap (zko a r)↔∃g∈l,g.Register=a∧f=⟨r,g.zF,g.Offset⟩:=by
 rw [List.mem_filterMap]
 constructor
 · rintro ⟨g,hg,h⟩
   unfold zko at h;split at h
   · rename_i e;cases h;exact⟨g,hg,e,rfl⟩
   · cases h
 · rintro ⟨g,hg,e,rfl⟩
   exact⟨g,hg,by unfold zko;rw [ifp e]⟩
theorem z09 {l:List zD} {r:Int} {f:zD}:f∈woL r l↔f∈l∧f.Register≠r:=by
 unfold woL
 rw [List.mem_filter]
 simp
theorem zaev {x:zA} {l:List zD} {f:zD}:f∈zs6 x l↔(f∈l∧f.Register≠x.R)∨f=⟨x.R,x.zF,-1⟩∨(x.Place.Based=false∧(f=⟨x.R,x.zF,x.Place.Offset⟩∨∃h∈l,h.zF=x.zF∧h.Offset=x.Place.Offset∧∃g∈l,g.Register=h.Register∧f=⟨x.R,g.zF,g.Offset⟩)):=by
 unfold zs6
 rw [List.mem_append,List.mem_append,z09,List.mem_singleton,or_assoc]
 cases hb:x.Place.Based with
 | true=>simp
 | false=>
  simp only [Bool.false_eq_true,if_false,List.mem_append,List.mem_singleton,List.mem_flatMap,true_and];have:(∃a,a∈l∧f∈zmh x l a)↔∃h∈l,h.zF=x.zF∧h.Offset=x.Place.Offset∧∃g∈l,g.Register=h.Register∧f=⟨x.R,g.zF,g.Offset⟩:=by
   constructor
   · rintro ⟨h,hh,hf⟩
     unfold zmh at hf;split at hf
     · rename_i e;rw [Bool.and_eq_true,z49,beq_iff_eq]at e;exact⟨h,hh,e.1,e.2,zys.1 hf⟩
     · simp at hf
   · rintro ⟨h,hh,e1,e2,hf⟩
     refine⟨h,hh,?_⟩;unfold zmh;rw [ifp (by rw [Bool.and_eq_true,z49,beq_iff_eq];exact⟨e1,e2⟩)];exact zys.2 hf
  rw [this]
theorem zaf5 {x:zA} {l:List zD} {f:zD}:f∈zxb x l↔(x.Place.Based=true∧f∈l∧f.Offset= -1)∨(x.Place.Based=false∧((f∈l∧apB x.Place.Offset (szE x.zF) f=false)∨(x.Op=1∧(⟨x.R,x.zF,-1⟩:zD)∈l∧f=⟨x.R,x.zF,x.Place.Offset⟩))):=by
 unfold zxb
 cases hb:x.Place.Based with
 | true=>simp [List.mem_filter]
 | false=>
  simp only [Bool.false_eq_true,if_false,List.mem_append,List.mem_filter,false_and,false_or,true_and,Bool.not_eq_true'];have:(f∈(if x.Op==1&&zot l ⟨x.R,x.zF,-1⟩then [(⟨x.R,x.zF,x.Place.Offset⟩:zD)]else []))↔(x.Op=1∧(⟨x.R,x.zF,-1⟩:zD)∈l∧f=⟨x.R,x.zF,x.Place.Offset⟩):=by
   split
   · rename_i e;rw [Bool.and_eq_true,beq_iff_eq,zsn]at e;simp [e.1,e.2]
   · rename_i e;rw [Bool.and_eq_true,beq_iff_eq,zsn]at e;simp only [List.not_mem_nil,false_iff]
     rintro ⟨a,b,_⟩
     exact e ⟨a,b⟩
  rw [this]
def Beh (x:zA) (l:List zD) (f:zD):Prop:=
 if x.Op=0 then(f∈l∧f.Register≠x.R)∨f=⟨x.R,x.zF,-1⟩∨(x.Place.Based=false∧(f=⟨x.R,x.zF,x.Place.Offset⟩∨∃h∈l,h.zF=x.zF∧h.Offset=x.Place.Offset∧∃g∈l,g.Register=h.Register∧f=⟨x.R,g.zF,g.Offset⟩))
 else if x.Op=4 then(f∈l∧f.Register≠x.R)∨f=⟨x.R,x.zF,-1⟩
 else if x.Op=2∨x.Op=21 then f∈l∧f.Register≠x.R
 else if x.Op=3 then(f∈l∧f.Register≠x.R)∨∃g∈l,g.Register=x.A∧f=⟨x.R,g.zF,g.Offset⟩
 else if x.Op=1∨x.Op=9∨x.Op=10 then(x.Place.Based=true∧f∈l∧f.Offset= -1)∨(x.Place.Based=false∧((f∈l∧apB x.Place.Offset (szE x.zF) f=false)∨(x.Op=1∧(⟨x.R,x.zF,-1⟩:zD)∈l∧f=⟨x.R,x.zF,x.Place.Offset⟩)))
 else if x.Op=14∨x.Op=15∨x.Op=16 then f∈l∧apB x.Pointer 16 f=false
 else f∈l
theorem zo4 {l:List zD} {f:zD}:f∈ordD Proofs.Tryz.ltF l↔f∈l:=Proofs.Tryz.mem_ordD _ Proofs.Tryz.ltF_eq f l
theorem z9y {x:zA} {l:List zD} {f:zD}:f∈zku x l↔Beh x l f:=by
 unfold zku Beh
 split
 · rw [zo4,zaev]
 · split
   · rw [zo4,List.mem_append,z09,List.mem_singleton]
   · split
     · rw [z09]
     · split
       · rw [zo4,List.mem_append,z09,zys]
       · split
         · rw [zo4,zaf5]
         · split
           · simp [List.mem_filter]
           · rfl
def zakf (l:List zD):Prop:=l.Pairwise fun a b=>Proofs.Tryz.ltF a b=true
variable {m:zK} {c:zH}
theorem zakb {x:zA} (hx:InsX m c x) {l:List zD} (hl:∀f∈l,FctV m c f) {f:zD} (h:Beh x l f):FctV m c f:=by
 have about:∀g∈l,(0≤x.R∧x.R<m.Registers)→FctV m c ⟨x.R,g.zF,g.Offset⟩:=fun g hg hr=>⟨hr,(hl g hg).ty,(hl g hg).kd,(hl g hg).of⟩
 unfold Beh at h
 split at h
 · rename_i e;rcases h with⟨h,_⟩|rfl|⟨hb,rfl|⟨_,_,_,_,g,hg,_,rfl⟩⟩
   · exact hl _ h
   · exact⟨hx.r (.inl e),hx.ty (.inl e),hx.kd (.inl e),.inl rfl⟩
   · exact⟨hx.r (.inl e),hx.ty (.inl e),hx.kd (.inl e),.inr (hx.pl (.inl e) hb)⟩
   · exact about g hg (hx.r (.inl e))
 · split at h
   · rename_i e;rcases h with⟨h,_⟩|rfl
     · exact hl _ h
     · exact⟨hx.r (by omega),hx.ty (by omega),hx.kd (by omega),.inl rfl⟩
   · split at h
     · exact hl _ h.1
     · split at h
       · rename_i e;rcases h with⟨h,_⟩|⟨g,hg,_,rfl⟩
         · exact hl _ h
         · exact about g hg (hx.r (by omega))
       · split at h
         · rename_i e;rcases h with⟨_,h,_⟩|⟨hb,⟨h,_⟩|⟨e1,_,rfl⟩⟩
           · exact hl _ h
           · exact hl _ h
           · exact⟨hx.r (by omega),hx.ty (by omega),hx.kd (by omega),.inr (hx.pl (by omega) hb)⟩
         · split at h
           · exact hl _ h.1
           · exact hl _ h
theorem zab0 (N:Nat) (hN:10<N) (hm:m.Registers≤8) (hs:c.Storage.Bytes.size≤1024) {x:zA} (hx:InsX m c x) {l:List zD} (hf:∀f∈l,FctV m c f) (h:l.length<N) (hl:l.length≤5000):
 zf8 N x l=some (zku x l):=by
 have ok:∀f∈zku x l,Proofs.Tryz.okF f=true:=fun f hf'=>zaju hm hs (zakb hx hf (z9y.1 hf'))
 have ht:∀f∈l,zce f.zF=0:=fun f h=>(hf f h).ty
 unfold zf8
 simp only [zbx]
 by_cases e0:x.Op=0
 · have o2:zku x l=ordD Proofs.Tryz.ltF (zs6 x l):=by unfold zku;rw [ifp e0]
   rw [dct e0,ctr,zabz N x l h hl,obs,zv1 (fun f hf'=>ok f (by rw [o2,zo4];exact hf')) ?_,o2]
   · rfl
   · unfold zs6 woL;have h1:(l.filter fun f=> !(f.Register==x.R)).length≤l.length:=List.length_filter_le _ _;have h2:(l.flatMap (zmh x l)).length≤5000*5000:=by
      have:∀k:List zD,k.length≤5000→(k.flatMap (zmh x l)).length≤k.length*5000:=by
       intro k
       induction k with
       | nil=>intro _;simp
       | cons g k ih=>
        intro hk;have hk':k.length+1≤5000:=by simpa using hk
        have:=ih (by omega);have h3:(zmh x l g).length≤5000:=by
         unfold zmh;split
         · exact Nat.le_trans (List.length_filterMap_le _ _) hl
         · simp
        rw [List.flatMap_cons,lna,lnc,Nat.succ_mul];omega
      exact Nat.le_trans (this l hl) (Nat.mul_le_mul_right 5000 hl)
     simp only [lna,lnc,ln0];split
     · simp;omega
     · simp only [lna,lnc,ln0];omega
 · rw [dcf e0,cfa]
   by_cases e4:x.Op=4
   · have o2:zku x l=ordD Proofs.Tryz.ltF (woL x.R l++[⟨x.R,x.zF,-1⟩]):=by unfold zku;rw [ifn e0,ifp e4]
     have h1:(woL x.R l).length≤l.length:=List.length_filter_le _ _;rw [dct e4,ctr,zro N l x.R h (by omega),obs];change cond (Nat.ble (((woL x.R l).length+1)*40) zae) ((zpy Proofs.Tryz.ltF Proofs.Tryz.okF (woL x.R l++[⟨x.R,x.zF,-1⟩])).bind fun r4=>some r4) none=_;rw [zr2 (by omega),ctr,zv1 (fun f hf'=>ok f (by rw [o2,zo4];exact hf')) (by simp;omega),o2];rfl
   · rw [dcf e4,cfa]
     by_cases e2:x.Op=2∨x.Op=21
     · have o2:zku x l=woL x.R l:=by unfold zku;rw [ifn e0,ifn e4,ifp e2]
       rw [show cond (decide (x.Op=2)) (some (decide (x.Op=2))) (some (decide (x.Op=21)))=some true by rcases e2 with e|e<;>simp [e],obs,ctr,zro N l x.R h (by omega),o2];rfl
     · rw [show cond (decide (x.Op=2)) (some (decide (x.Op=2))) (some (decide (x.Op=21)))=some false by rw [not_or]at e2;simp [e2.1,e2.2],obs,cfa]
       by_cases e3:x.Op=3
       · have o2:zku x l=ordD Proofs.Tryz.ltF (woL x.R l++l.filterMap (zko x.A x.R)):=by unfold zku;rw [ifn e0,ifn e4,ifn e2,ifp e3]
         have h1:(woL x.R l).length≤l.length:=List.length_filter_le _ _;have h2:(l.filterMap (zko x.A x.R)).length≤l.length:=List.length_filterMap_le _ _;rw [dct e3,ctr,zro N l x.R h (by omega),obs,z5g N l x.A x.R h (by omega),obs];change cond (Nat.ble (((woL x.R l).length+(l.filterMap (zko x.A x.R)).length)*40) zae) ((zpy Proofs.Tryz.ltF Proofs.Tryz.okF (woL x.R l++l.filterMap (zko x.A x.R))).bind fun r9=>some r9) none=_;rw [zr2 (by omega),ctr,zv1 (fun f hf'=>ok f (by rw [o2,zo4];exact hf')) (by rw [lna];omega),o2];rfl
       · rw [dcf e3,cfa]
         by_cases e1:x.Op=1∨x.Op=9∨x.Op=10
         · have o2:zku x l=ordD Proofs.Tryz.ltF (zxb x l):=by unfold zku;rw [ifn e0,ifn e4,ifn e2,ifn e3,ifp e1]
           rw [show cond (decide (x.Op=1)) (some (decide (x.Op=1))) (cond (decide (x.Op=9)) (some (decide (x.Op=9))) (some (decide (x.Op=10))))=some true by rcases e1 with e|e|e<;>simp [e],obs,ctr,
            z99 N hN x l (hx.ty (by omega)) ht h hl,obs,zv1 (fun f hf'=>ok f (by rw [o2,zo4];exact hf')) ?_,o2]
           · rfl
           · unfold zxb;split
             · exact Nat.le_trans (List.length_filter_le _ _) (by omega)
             · rw [lna];have h1:(l.filter fun f=> !apB x.Place.Offset (szE x.zF) f).length≤l.length:=List.length_filter_le _ _;split<;>simp<;>omega
         · rw [show cond (decide (x.Op=1)) (some (decide (x.Op=1))) (cond (decide (x.Op=9)) (some (decide (x.Op=9))) (some (decide (x.Op=10))))=some false by rw [not_or,not_or]at e1;simp [e1.1,e1.2.1,e1.2.2],obs,cfa]
           by_cases e5:x.Op=14∨x.Op=15∨x.Op=16
           · have o2:zku x l=l.filter fun f=> !apB x.Pointer 16 f:=by unfold zku;rw [ifn e0,ifn e4,ifn e2,ifn e3,ifn e1,ifp e5]
             rw [show cond (decide (x.Op=14)) (some (decide (x.Op=14))) (cond (decide (x.Op=15)) (some (decide (x.Op=15))) (some (decide (x.Op=16))))=some true by rcases e5 with e|e|e<;>simp [e],obs,ctr,
              z5f N hN l _ _ ht h (by omega),o2]
             rfl
           · have o2:zku x l=l:=by unfold zku;rw [ifn e0,ifn e4,ifn e2,ifn e3,ifn e1,ifn e5]
             rw [show cond (decide (x.Op=14)) (some (decide (x.Op=14))) (cond (decide (x.Op=15)) (some (decide (x.Op=15))) (some (decide (x.Op=16))))=some false by rw [not_or,not_or]at e5;simp [e5.1,e5.2.1,e5.2.2],obs,cfa,o2]
variable {m:zK} {c:zH}
theorem zsk {n:Nat} (f:Nat→Bool) {k:Nat} (v:Bool):((List.range n).map f).set k v=(List.range n).map fun i=>if i=k then v else f i:=by
 apply List.ext_getElem?
 intro i
 rw [List.getElem?_set,List.getElem?_map,List.getElem?_map,lnm,List.length_range]
 by_cases hi:i<n
 · rw [List.getElem?_range hi]
   by_cases e:k=i
   · subst e;simp [hi]
   · simp [e,Ne.symm e]
 · rw [List.getElem?_eq_none (by simpa using hi)]
   by_cases e:k=i
   · subst e;simp [hi]
   · simp [e]
theorem zr6 {n:Nat} (f:Nat→Bool) {k:Nat} (h:k<n):((List.range n).map f)[k]?=some (f k):=by
 rw [List.getElem?_map,List.getElem?_range h]
 rfl
theorem z6b (n:Nat):List.replicate n false=(List.range n).map fun _=>false:=by
 apply List.ext_getElem
 · simp
 · intro i h1 h2;simp
def z7n (c:zH) (k:Nat):Bool:=decide (k=0)||c.zQ.any fun t=>decide (t.Handler=(k:Int))
def entC (c:zH) (k:Nat):Bool:=match k with|0=>false|j+1=>(c.zB[j]?).any fun x=>decide (x.Op=18)
theorem zyk (c:zH) (j:Nat):entC c (j+1)=(c.zB[j]?).any fun x=>decide (x.Op=18):=rfl
def zt9 (c:zH) (k:Nat):Bool:=z7n c k||entC c k
def zyj (c:zH):List Bool:=(List.range c.zB.length).map (zt9 c)
structure CdV (m:zK) (c:zH):Prop where
 m1:2≤m.Registers
 m2:m.Registers≤8
 sz:c.Storage.Bytes.size≤1024
 len:c.zB.length≤240
 pos:0<c.zB.length
 traps:c.zQ.length≤1048576
 ins:∀x∈c.zB,InsX m c x
 trap:∀t∈c.zQ,0≤t.Handler∧t.Handler<(c.zB.length:Int)
variable {m:zK} {c:zH}
theorem zagd (N:Nat) (hN:1048600<N) (hc:CdV m c):zi (zy.r0 N) N (((List.range c.zB.length).map fun k=>decide (k=0)),c.zQ,(c.zQ.length:Int),0,c)=some ((List.range c.zB.length).map (z7n c),c.zQ,(c.zQ.length:Int),(c.zQ.length:Int),c):=by
 have ht:=hc.traps
 have:=zdb (f:=zy.r0 N) (fun i=>((List.range c.zB.length).map (fun k:Nat=>decide (k=0)||(c.zQ.take i).any fun t=>decide (t.Handler=(k:Int))),c.zQ,(c.zQ.length:Int),(i:Int),c)) c.zQ.length (fun i hi=>by
  have hx:=lge hi;obtain⟨h0,h1⟩:=hc.trap _ (lmg hx);generalize c.zQ[i]=x at hx h0 h1;simp only [zy.r0,zy.b0,zau,hx,obs,dct (show(i:Int)<(c.zQ.length:Int)by omega),ctr,ifp h0];rw [ifp (by simpa using h1),zr6 _ (by omega),w6e,obs,zsk,List.take_add_one,hx]
  congr 3
  apply List.map_congr_left;intro k _;simp only [List.any_append,Option.toList_some,List.any_cons,List.any_nil,Bool.or_false]
  by_cases e:k=x.Handler.toNat
  · subst e;have:x.Handler=((x.Handler.toNat:Nat):Int):=by omega
    simp [←this]
  · have:¬x.Handler=(k:Int):=by omega
    simp [e,this])
  (by simp only [zy.r0,zy.b0,dcf (show ¬(c.zQ.length:Int)<(c.zQ.length:Int)by omega),cfa]) (show c.zQ.length<N by omega)
 rw [show z7n c=(fun k:Nat=>decide (k=0)||c.zQ.any fun t=>decide (t.Handler=(k:Int)))from rfl]
 simpa using this
def zm3 (c:zH):List Int:=(List.range c.zB.length).filterMap fun i=>(c.zB[i]?).bind fun x=>if x.Op=18∧i+1<c.zB.length then some ((i:Int)+1)else none
theorem zad9 (N:Nat) (hN:1000<N) (hc:CdV m c):za1 N c=some (zm3 c):=by
 unfold za1
 have hl:=hc.len
 have:=coll (f:=za1.r0 N) (List.range c.zB.length) (fun i=>(c.zB[i]?).bind fun x=>if x.Op=18∧i+1<c.zB.length then some ((i:Int)+1)else none) (fun i acc=>(acc,c.zB,(c.zB.length:Int),(i:Int),c)) (fun i j acc hj hacc=>by
  obtain⟨hi,rfl⟩:=gei hj;have hi:i<c.zB.length:=by simpa using hi
  have hx:=lge hi;simp only [List.getElem_range];generalize c.zB[i]=x at hx;simp only [za1.r0,za1.b0,zau,hx,obs,dct (show(i:Int)<(c.zB.length:Int)by omega),ctr,zbx,lnc,ln0,ble8 (show acc.length+(0+1)≤1000000 by omega)];rw [w6e,zm1,obs]
  by_cases e1:x.Op=18<;>by_cases e2:i+1<c.zB.length
  · simp [e1,e2,show((i:Int)+1<(c.zB.length:Int))by omega]
  · simp [e1,e2,show ¬((i:Int)+1<(c.zB.length:Int))by omega]
  · simp [e1]
  · simp [e1])
  (fun acc=>by simp only [za1.r0,za1.b0,List.length_range,dcf (show ¬(c.zB.length:Int)<(c.zB.length:Int)by omega),cfa]) (show(List.range c.zB.length).length<N by simp;omega)
 simp only [nc0]at this
 rw [this]
 rfl
theorem z01 {z:Int}:z∈zm3 c↔∃k:Nat,z=(k:Int)∧k<c.zB.length∧entC c k=true:=by
 unfold zm3
 rw [List.mem_filterMap]
 constructor
 · rintro ⟨i,hi,h⟩
   have hi:i<c.zB.length:=by simpa using hi
   rw [lge hi,obs]at h;split at h
   · rename_i e;cases h;refine⟨i+1,rfl,e.2,?_⟩;rw [zyk,lge hi];simp [e.1]
   · cases h
 · rintro ⟨k,rfl,hk,h⟩
   cases k with
   | zero=>cases h
   | succ j=>
    have hj:j<c.zB.length:=by omega
    refine⟨j,by simpa using hj,?_⟩;rw [zyk,lge hj]at h;rw [lge hj];have h18:c.zB[j].Op=18:=by simpa using h
    rw [obs,ifp ⟨h18,hk⟩];rfl
theorem z1a (N:Nat) (hN:1048600<N) (hc:CdV m c):zy N c=some (zyj c):=by
 unfold zy
 have hl:=hc.len
 have hp:=hc.pos
 rw [ifp,ifp,itn,ble1 (by omega),ctr,ifp,ifp (by simp;omega),Int.toNat_zero,z6b,zr6 _ hp,obs,zsk]
 have e:((List.range c.zB.length).map fun i=>if i=0 then true else false)=(List.range c.zB.length).map fun k=>decide (k=0):=by
  apply List.map_congr_left;intro k _
  by_cases h:k=0<;>simp [h]
 rw [e,zagd N hN hc]
 simp only [obs]
 rw [zad9 N (by omega) hc]
 simp only [obs]
 have hcl:(zm3 c).length≤c.zB.length:=by
  unfold zm3;exact Nat.le_trans (List.length_filterMap_le _ _) (by simp)
 have:=zdb (f:=zy.r2 N) (fun i=>((List.range c.zB.length).map (fun k:Nat=>z7n c k||((zm3 c).take i).any fun t=>decide (t=(k:Int))),zm3 c,((zm3 c).length:Int),(i:Int))) (zm3 c).length (fun i hi=>by
  have hx:=lge hi;obtain⟨k0,hk0,hk1,_⟩:=z01.1 (lmg hx);generalize (zm3 c)[i]=x at hx hk0;subst hk0;simp only [zy.r2,zy.b2,zau,hx,obs,dct (show(i:Int)<((zm3 c).length:Int)by omega),ctr,ifp (show 0≤(k0:Int)by omega)];rw [ifp (by simp;omega),itn,zr6 _ hk1,w6e,obs,zsk,List.take_add_one,hx]
  congr 3
  apply List.map_congr_left;intro k _;simp only [List.any_append,Option.toList_some,List.any_cons,List.any_nil,Bool.or_false]
  by_cases e:k=k0
  · subst e;simp
  · have:¬((k0:Int)=(k:Int)):=by omega
    simp [e,this])
  (by simp only [zy.r2,zy.b2,dcf (show ¬((zm3 c).length:Int)<((zm3 c).length:Int)by omega),cfa]) (show(zm3 c).length<N by omega)
 simp only [nc0,List.take_zero,List.any_nil,Bool.or_false,List.take_length]at this
 rw [this]
 simp only [obs]
 congr 1
 apply List.map_congr_left
 intro k hk
 have hk:k<c.zB.length:=by simpa using hk
 unfold zt9
 congr 1
 rw [Bool.eq_iff_iff,List.any_eq_true]
 constructor
 · rintro ⟨z,hz,h⟩
   have h:=of_decide_eq_true h;subst h;obtain⟨k',e,_,h⟩:=z01.1 hz;obtain rfl:k=k':=by omega
   exact h
 · intro h;exact⟨(k:Int),z01.2 ⟨k,rfl,hk,h⟩,by simp⟩
def zps (o:Int):Bool:=decide (o≠8)&&(decide (o≠18)&&(decide (o≠19)&&(decide (o≠20)&&decide (o≠26))))
def zgs (o:Int):Bool:=decide (o=6)||(decide (o=7)||(decide (o=8)||decide (o=18)))
def zfp (c:zH) (i:Nat):List Int:=match c.zB[i]? with
 | none=>[]
 | some x=>(if i+1<c.zB.length∧zps x.Op=true then [(i:Int)+1]else [])++(if zgs x.Op=true then [x.Target]else [])
theorem z5d (o:Int):zd6 o=some (zgs o):=by
 unfold zd6 zgs
 simp only [zbx,orB,obs,Bool.or_assoc]
theorem zaga (hl:c.zB.length≤1000000) {i:Nat} (hi:i<c.zB.length):zdj c (i:Int)=some (zfp c i):=by
 unfold zdj zfp
 have hx:=lge hi
 rw [zau,hx,obs]
 simp only
 generalize c.zB[i]=x
 have q:(cond (x.Op==8) (some (x.Op==8)) (cond (x.Op==18) (some (x.Op==18)) (cond (x.Op==19) (some (x.Op==19)) (cond (x.Op==20) (some (x.Op==20)) (some (x.Op==26))))))=some (!zps x.Op):=by
  unfold zps;simp only [zbx]
  by_cases h1:x.Op=8
  · simp [h1]
  · by_cases h2:x.Op=18
    · simp [h2]
    · by_cases h3:x.Op=19
      · simp [h3]
      · by_cases h4:x.Op=20
        · simp [h4]
        · by_cases h5:x.Op=26<;>simp [h1,h2,h3,h4,h5]
 rw [q,obs,z5d,w6e]
 simp only [obs,lnc,ln0,ble8 (show 0+1≤1000000 by omega),ble8 (show 0+1+(0+1)≤1000000 by omega),ctr]
 cases hg:zps x.Op with
 | false=>simp;cases zgs x.Op<;>simp
 | true=>
  by_cases h:i+1<c.zB.length
  · rw [dct (show(i:Int)+1<(c.zB.length:Int)by omega)];simp [h];cases zgs x.Op<;>simp
  · rw [dcf (show ¬(i:Int)+1<(c.zB.length:Int)by omega)];simp [h];cases zgs x.Op<;>simp
theorem z85 (hc:CdV m c) {i:Nat} {z:Int} (h:z∈zfp c i):∃k:Nat,z=(k:Int)∧k<c.zB.length:=by
 unfold zfp at h
 cases hx:c.zB[i]? with
 | none=>rw [hx]at h;simp at h
 | some x=>
  rw [hx]at h;simp only [List.mem_append]at h;rcases h with h|h
  · split at h
    · rename_i e;have:z=(i:Int)+1:=by simpa using h
      exact⟨i+1,by omega,e.1⟩
    · simp at h
  · split at h
    · rename_i e;have hz:z=x.Target:=by simpa using h
      unfold zgs at e;simp only [Bool.or_eq_true,decide_eq_true_eq]at e;have:=(hc.ins x (lmg hx)).tg (by omega);exact⟨x.Target.toNat,by omega,by omega⟩
    · simp at h
variable {m:zK} {c:zH}
theorem zakk (n lo hi:Int):zka n lo hi=some (inB n lo hi):=by
 unfold zka inB
 cases decide (lo≤n)<;>simp
theorem zr9 (N:Nat) (l:List Int) (h:l.length<N) (hl:l.length<1000000000):zbo N l=some (zcu l):=by
 unfold zbo
 have:=zcm (f:=zbo.r0 N) (fun i=>(l,(l.length:Int),(i:Int))) (fun i=>(l[i]?).bind fun x=>if x=0 then none else some x) l.length
  (fun i hi=>by
   have hx:=lge hi;simp only [zbo.r0,zbo.b0,zau,hx,obs,dct (show(i:Int)<(l.length:Int)by omega),ctr]
   by_cases h0:l[i]=0
   · simp only [h0,bsf,cfa,if_true];rw [w6e];rfl
   · simp only [h0,if_false];rw [show(l[i] !=0)=true by simpa using h0];rfl)
  (by simp only [zbo.r0,zbo.b0,dcf (show ¬(l.length:Int)<(l.length:Int)by omega),cfa]) h
 simp only [nc0]at this
 rw [this,zny,←ztc]
 simp only [obs]
 cases l.findSome? (fun x=>if x=0 then none else some x)<;>rfl
def offB (c:zH) (f:zD):Bool:=decide (f.Offset≠-1)&& !inB f.Offset 0 ((c.Storage.Bytes.size:Int)-szE f.zF)
def zyf (m:zK) (c:zH) (f:zD):Option Int:=
 if inB f.Register 0 (m.Registers-1)=false then some 3
 else if zce f.zF≠0∨f.zF.Kind=0∨f.zF.Kind=4 then some 17
 else if offB c f=true then some 3 else none
def zx6 (m:zK) (c:zH) (l:List zD):Option Int:=if 60<l.length then some 2 else l.findSome? (zyf m c)
theorem zajv {f:zD} (h:zyf m c f=none):FctV m c f:=by
 unfold zyf at h
 split at h
 · cases h
 · rename_i h1;split at h
   · cases h
   · rename_i h2;split at h
     · cases h
     · rename_i h3;have h1:inB f.Register 0 (m.Registers-1)=true:=by simpa using h1
       have h1:=zay.1 h1;rw [not_or,not_or]at h2;obtain⟨ht,hk,hk2⟩:=h2;refine⟨by omega,Classical.not_not.1 ht,⟨hk,hk2⟩,?_⟩;unfold offB at h3
       by_cases e:f.Offset= -1
       · exact .inl e
       · rw [dct e,Bool.true_and,Bool.not_eq_true',Bool.not_eq_false]at h3;have:=zay.1 h3;exact .inr ⟨this.1,by omega⟩
theorem zae1 {f:zD} {e:Int} (h:zyf m c f=some e):e≠0:=by
 unfold zyf at h
 split at h
 · cases h;decide
 · split at h
   · cases h;decide
   · split at h
     · cases h;decide
     · cases h
theorem z6r {l:List zD} {e:Int} (h:zx6 m c l=some e):e≠0:=by
 unfold zx6 at h
 split at h
 · cases h;decide
 · obtain⟨f,_,hf⟩:=eof h;exact zae1 hf
theorem zajh {l:List zD} (h:zx6 m c l=none):l.length≤60∧∀f∈l,FctV m c f:=by
 unfold zx6 at h
 split at h
 · cases h
 · rename_i h1;rw [List.findSome?_eq_none_iff]at h;exact⟨by omega,fun f hf=>zajv (h f hf)⟩
theorem zagc (N:Nat) (hN:2000<N) (hm:2≤m.Registers∧m.Registers≤8) (hs:c.Storage.Bytes.size≤1024) (l:List zD) (hl:l.length≤1000000000):zbv N m c l=some ((zx6 m c l).getD 0):=by
 unfold zbv zx6
 by_cases h60:60<l.length
 · rw [dct (by omega),ctr,ifp h60];rfl
 · rw [dcf (by omega),cfa,ifn h60];have:=zcm (f:=zbv.r0 N) (fun i=>(l,(l.length:Int),(i:Int),m,c)) (fun i=>(l[i]?).bind (zyf m c)) l.length
    (fun i hi=>by
     have hx:=lge hi;generalize l[i]=x at hx;simp only [zbv.r0,zbv.b0,zau,hx,obs,dct (show(i:Int)<(l.length:Int)by omega),ctr,zakk,znw N (by omega),zbx,zde];rw [w6e (n:=m.Registers-1),w6e (n:=(i:Int)+1)];unfold zyf;cases h1:inB x.Register 0 (m.Registers-1)with
     | false=>simp
     | true=>
      simp only [bnt,cfa,orB,obs]
      by_cases h2:zce x.zF≠0∨x.zF.Kind=0∨x.zF.Kind=4
      · rw [ifn (by simp),ifp h2,show(decide (zce x.zF≠0)||decide (x.zF.Kind=0)||decide (x.zF.Kind=4))=true by simpa [or_assoc]using h2];rfl
      · rw [ifn (by simp),ifn h2,show(decide (zce x.zF≠0)||decide (x.zF.Kind=0)||decide (x.zF.Kind=4))=false by rw [not_or,not_or]at h2;simp [h2.2.1,h2.2.2,Classical.not_not.1 h2.1]];rw [not_or]at h2;have ht:zce x.zF=0:=Classical.not_not.1 h2.1;have hp:=zh4 ht;rw [cfa,z2s N (by omega) ht];simp only [obs];rw [w6e,zm1,obs];show cond (offB c x) _ _=_;cases offB c x<;>rfl)
    (by simp only [zbv.r0,zbv.b0,dcf (show ¬(l.length:Int)<(l.length:Int)by omega),cfa]) (show l.length<N by omega)
   simp only [nc0]at this;rw [this,zny];cases l.findSome? (zyf m c)<;>rfl
def lsE (m:zK) (c:zH) (F:List (List zD)) (i:Nat):Option (Int × Int):=(F[i]?).bind fun l=>(zx6 m c l).map fun e=>((i:Int),e)
theorem z5b (N:Nat) (hN:2000<N) (hm:2≤m.Registers∧m.Registers≤8) (hs:c.Storage.Bytes.size≤1024) (F:List (List zD)) (hF:F.length≤1000) (hl:∀l∈F,l.length≤1000000000):
 zp (zd.r0 N) N (F,(F.length:Int),0,m,c)=some (match(List.range F.length).findSome? (lsE m c F)with|some r=> .inl r|none=> .inr (F,(F.length:Int),(F.length:Int),m,c)):=by
 have:=zcm (f:=zd.r0 N) (fun i=>(F,(F.length:Int),(i:Int),m,c)) (lsE m c F) F.length
  (fun i hi=>by
   have hx:=lge hi;have hlen:=hl _ (lmg hx);unfold lsE;rw [hx,obs];generalize F[i]=l at hx hlen;simp only [zd.r0,zd.b0,zau,hx,obs,dct (show(i:Int)<(F.length:Int)by omega),ctr,zagc N hN hm hs l hlen,zde];rw [w6e (n:=(i:Int)+1)];cases he:zx6 m c l with
   | none=>simp
   | some e=>simp [z6r he])
  (by simp only [zd.r0,zd.b0,dcf (show ¬(F.length:Int)<(F.length:Int)by omega),cfa]) (show F.length<N by omega)
 simp only [nc0]at this
 rw [this]
 cases(List.range F.length).findSome? (lsE m c F)<;>rfl
theorem z9e {F:List (List zD)} (h:(List.range F.length).findSome? (lsE m c F)=none):∀l∈F,l.length≤60∧∀f∈l,FctV m c f:=by
 intro l hl
 obtain⟨i,hi⟩:=List.getElem?_of_mem hl
 rw [List.findSome?_eq_none_iff]at h
 have:=h i (by simp;exact(gei hi).1)
 unfold lsE at this
 rw [hi,obs,Option.map_eq_none_iff]at this
 exact zajh this
theorem zack {m:zK} {c:zH} {n:Int} (h:zpd m c=(n,0)):(∀x∈c.zB,zmi m c x=0)∧(∀t∈c.zQ,zm2 c t=true)∧n=(c.zB.length:Int):=by
 have h1:=zagv h
 refine⟨h1,?_⟩
 unfold zpd at h
 cases hf:(List.range c.zB.length).findSome? (gI m c)with
 | some r=>
  exfalso
  obtain⟨j,_,hj⟩:=eof hf;unfold gI at hj;rw [Option.bind_eq_some_iff]at hj;obtain⟨y,hy1,hy⟩:=hj;rw [ifp (h1 y (lmg hy1))]at hy;cases hy
 | none=>
  rw [hf]at h;cases hg:(List.range c.zQ.length).findSome? (gT c)with
  | some r=>
   exfalso
   rw [hg]at h;obtain⟨j,_,hj⟩:=eof hg;unfold gT at hj;rw [Option.bind_eq_some_iff]at hj;obtain⟨y,hy1,hy⟩:=hj;split at hy
   · cases hy
   · cases hy;have h3:(3:Int)=0:=congrArg Prod.snd h;exact absurd h3 (by decide)
  | none=>
   rw [hg]at h;refine⟨fun t ht=> ?_,(congrArg Prod.fst h).symm⟩;rw [List.findSome?_eq_none_iff]at hg;obtain⟨i,hi⟩:=List.getElem?_of_mem ht;have:=hg i (by simp;exact(gei hi).1);unfold gT at this;rw [hi,obs]at this;split at this
   · assumption
   · cases this
theorem z2j (N:Nat) (hN:1048600<N) {m:zK} {c:zH} (hc:Wft En 1048576 Ty.zH c) {n:Int} (h:zam N m c=some (n,0)):CdV m c∧n=(c.zB.length:Int):=by
 obtain⟨e,_,he2,he3⟩:=zru m
 obtain⟨i1,e1,e2,_,hs2,hs⟩:=zve N (by omega) c.Storage
 obtain⟨w1,w2,w3,w4,w5⟩:=zkx hc
 unfold zam at h
 try simp only [eS,eM,eC]at h
 rw [he2,hs2]at h
 simp only [obs]at h
 by_cases h0:e=0
 · subst h0;have hm:=he3 rfl;simp only [bsf,cfa]at h
   by_cases h2:e2=0
   · rcases hs with⟨rfl,hs⟩|⟨ok,htl,_,_⟩
     · exact absurd h2 hs
     · subst h2;obtain⟨l,hl1,hl2⟩:=zyz N c.Storage htl (by omega);rw [hl1]at h;simp only [bsf,cfa,obs,orB]at h;cases hd:decide ((l.length:Int)>0)with
       | true=>rw [hd]at h;cases h
       | false=>
        rw [hd]at h hl2;simp only [cfa]at h
        by_cases hz:(c.zB.length:Int)=0
        · rw [hz]at h;cases h
        · rw [zbx,dcf hz]at h;simp only [cfa]at h;cases hb:(decide ((c.zB.length:Int)>240)||decide ((c.zQ.length:Int)>40))with
          | true=>rw [hb]at h;cases h
          | false=>
           rw [hb]at h;simp only [cfa]at h;have:=zvm N hN hm ok hc;rw [this]at h;simp only [Bool.or_eq_false_iff,decide_eq_false_iff_not]at hb;obtain⟨r1,r2,r3⟩:=zack (Option.some.inj h);have hand:∀t∈c.zQ,0≤t.Handler∧t.Handler<(c.zB.length:Int):=fun t ht=>by
            have h5:=r2 t ht;unfold zm2 at h5;simp only [Bool.and_eq_true]at h5;have h6:=zay.1 h5.2.2.2;omega
           exact⟨⟨hm.1,hm.2,ok.le,by omega,by omega,by omega,fun x hx=>z41 (r1 x hx),hand⟩,r3⟩
   · rw [zde,dct h2]at h;simp only [ctr,Option.some.injEq,Prod.mk.injEq]at h;exact absurd h.2 h2
 · rw [zde,dct h0]at h;simp only [ctr,Option.some.injEq,Prod.mk.injEq]at h;exact absurd h.2 h0
variable {m:zK} {c:zH}
theorem zad7 (N:Nat) (l t:List zD) (h:l.length<N) (hl:l.length<1000000000) (h':t.length<N) (hl':t.length<1000000000):zc0 N l t=some (l.any fun f=> !zot t f):=by
 unfold zc0 zaa
 have:=z2t (f:=zaa.r0 N) l (fun f=> !zot t f) (fun i=>(l,(l.length:Int),(i:Int),t)) (fun i y hy=>by
  have hi:=(gei hy).1;simp only [zaa.r0,zaa.b0,zgq,ztp N t y h' hl',zau,hy,obs,dct (show(i:Int)<(l.length:Int)by omega),ctr];rw [w6e];cases zot t y<;>simp)
  (by simp only [zaa.r0,zaa.b0,dcf (show ¬(l.length:Int)<(l.length:Int)by omega),cfa]) h
 simp only [nc0]at this
 rw [this]
 have e:=zzr l (fun f=> !zot t f)
 cases hf:l.findIdx? (fun f=> !zot t f)with
 | none=>rw [hf]at e;rw [←e];simp [zbq]
 | some k=>rw [hf]at e;rw [←e];simp [zbq]
theorem z5e (N:Nat) (l:List Bool) (h:l.length<N) (hl:l.length<1000000000):zao N l true=some (match l.findIdx? id with|some k=>(k:Int)|none=> -1):=by
 unfold zao
 have:=z2t (f:=zao.r0 N) l id (fun i=>(l,true,(l.length:Int),(i:Int))) (fun i y hy=>by
  have hi:=(gei hy).1;simp only [zao.r0,zao.b0,zau,hy,obs,dct (show(i:Int)<(l.length:Int)by omega),ctr];rw [w6e];cases y<;>simp)
  (by simp only [zao.r0,zao.b0,dcf (show ¬(l.length:Int)<(l.length:Int)by omega),cfa]) h
 simp only [nc0]at this
 rw [this]
 cases l.findIdx? id<;>rfl
def zq0 (c:zH) (F:List (List zD)) (i:Nat):List zD:=match c.zB[i]?,F[i]? with|some x,some l=>zku x l|_,_=>[]
def zgm (F:List (List zD)) (k:Nat):List zD:=(F[k]?).getD []
def zv6 (c:zH) (F:List (List zD)) (i k:Nat):Bool:=(zgm F k).any fun f=> !zot (zq0 c F i) f
def z8d (c:zH) (F:List (List zD)) (i k:Nat):Bool:=(zfp c i).contains (k:Int)&&zv6 c F i k
def z0n (c:zH) (F:List (List zD)) (k:Nat):Bool:=zt9 c k&&decide (0<(zgm F k).length)
def zwp (c:zH) (F:List (List zD)) (k:Nat):Bool:=z0n c F k||(List.range c.zB.length).any fun i=>z8d c F i k
structure FsV (m:zK) (c:zH) (F:List (List zD)):Prop where
 len:F.length=c.zB.length
 v:∀l∈F,l.length≤60∧∀f∈l,FctV m c f
theorem zaif {x:zA} {l:List zD} (hl:l.length≤100):(zku x l).length≤100000:=by
 have ordl:∀k:List zD,(ordD Proofs.Tryz.ltF k).length≤k.length:=by
  have ins:∀(y:zD) (k:List zD),(insD Proofs.Tryz.ltF y k).length≤k.length+1:=by
   intro y k
   induction k with
   | nil=>simp [insD]
   | cons z k ih=>
    rw [insD];cases Proofs.Tryz.ltF y z with
    | true=>simp
    | false=>
     cases Proofs.Tryz.ltF z y with
     | true=>simp only [cfa,ctr,lnc];omega
     | false=>simp
  intro k
  induction k with
  | nil=>simp [ordD]
  | cons y k ih=>
   rw [ordD];exact Nat.le_trans (ins y _) (by simp;omega)
 have h1:(woL x.R l).length≤l.length:=List.length_filter_le _ _
 unfold zku
 split
 · refine Nat.le_trans (ordl _) ?_;unfold zs6;have h2:(l.flatMap (zmh x l)).length≤100*100:=by
    have:∀k:List zD,k.length≤100→(k.flatMap (zmh x l)).length≤k.length*100:=by
     intro k
     induction k with
     | nil=>intro _;simp
     | cons g k ih=>
      intro hk;have hk':k.length+1≤100:=by simpa using hk
      have:=ih (by omega);have h3:(zmh x l g).length≤100:=by
       unfold zmh;split
       · exact Nat.le_trans (List.length_filterMap_le _ _) hl
       · simp
      rw [List.flatMap_cons,lna,lnc,Nat.succ_mul];omega
    exact Nat.le_trans (this l hl) (Nat.mul_le_mul_right 100 hl)
   simp only [lna,lnc,ln0];split
   · simp;omega
   · simp only [lna,lnc,ln0];omega
 · split
   · exact Nat.le_trans (ordl _) (by simp;omega)
   · split
     · omega
     · split
       · have h2:(l.filterMap (zko x.A x.R)).length≤l.length:=List.length_filterMap_le _ _;exact Nat.le_trans (ordl _) (by rw [lna];omega)
       · split
         · refine Nat.le_trans (ordl _) ?_;unfold zxb;split
           · exact Nat.le_trans (List.length_filter_le _ _) (by omega)
           · have h2:(l.filter fun f=> !apB x.Place.Offset (szE x.zF) f).length≤l.length:=List.length_filter_le _ _;rw [lna];split<;>simp<;>omega
         · split
           · exact Nat.le_trans (List.length_filter_le _ _) (by omega)
           · omega
theorem zaeb {i:Nat}:(zfp c i).length≤2:=by
 unfold zfp
 cases c.zB[i]? with
 | none=>simp
 | some x=>
  simp only [lna];split<;>split<;>simp
variable {F:List (List zD)}
theorem zaab (N:Nat) (hN:1048600<N) (hc:CdV m c) (hF:FsV m c F) {i:Nat} (hi:i<c.zB.length) (p:Nat→Bool):
 zi (zd.r4 N) N (F,zyj c,(List.range c.zB.length).map p,(F.length:Int),(i:Int),zfp c i,((zfp c i).length:Int),0,c,zq0 c F i)=
  some (F,zyj c,(List.range c.zB.length).map (fun k=>p k||z8d c F i k),(F.length:Int),(i:Int),zfp c i,((zfp c i).length:Int),((zfp c i).length:Int),c,zq0 c F i):=by
 have hl:=hc.len
 have hs2:=zaeb (c:=c) (i:=i)
 have hbl:(zq0 c F i).length≤100000:=by
  unfold zq0;split
  · rename_i x l _ h2;exact zaif (by have:=(hF.v l (lmg h2)).1;omega)
  · simp
 have:=zdb (f:=zd.r4 N) (fun j=>(F,zyj c,(List.range c.zB.length).map (fun k:Nat=>p k||(((zfp c i).take j).contains (k:Int)&&zv6 c F i k)),(F.length:Int),(i:Int),zfp c i,((zfp c i).length:Int),(j:Int),c,zq0 c F i)) (zfp c i).length (fun j hj=>by
  have hx:=lge hj;obtain⟨k0,hk0,hk1⟩:=z85 hc (lmg hx);generalize (zfp c i)[j]=z at hx hk0;subst hk0;have hkl:k0<F.length:=by rw [hF.len];exact hk1
  have hk:F[k0]?=some F[k0]:=lge hkl;have hk60:=(hF.v _ (lmg hk)).1;simp only [zd.r4,zd.b4,zau,hx,hk,obs,dct (show(j:Int)<((zfp c i).length:Int)by omega),ctr,ifp (show 0≤(k0:Int)by omega),itn];rw [ifp (by simp;omega),zr6 _ hk1,obs,zad7 N _ _ (by omega) (by omega) (by omega) (by omega),obs,orB,obs,ifp (by simp;omega),obs,zsk,w6e,List.take_add_one,hx];have e:(F[k0]).any (fun f=> !zot (zq0 c F i) f)=zv6 c F i k0:=by unfold zv6 zgm;rw [hk];rfl
  rw [e]
  congr 5
  apply List.map_congr_left;intro k _
  by_cases ek:k=k0
  · subst ek;rw [ifp rfl];cases p k<;>cases zv6 c F i k<;>simp
  · rw [ifn ek];have:¬((k:Int)=(k0:Int)):=by omega
    have e2:((zfp c i).take j++(some (k0:Int)).toList).contains (k:Int)=((zfp c i).take j).contains (k:Int):=by
     rw [Bool.eq_iff_iff,List.contains_iff_mem,List.contains_iff_mem];simp [this]
    rw [e2])
  (by simp only [zd.r4,zd.b4,dcf (show ¬((zfp c i).length:Int)<((zfp c i).length:Int)by omega),cfa]) (show(zfp c i).length<N by omega)
 have e0:(fun k:Nat=>p k||(((zfp c i).take 0).contains (k:Int)&&zv6 c F i k))=p:=by funext k;simp
 simp only [nc0,e0,List.take_length]at this
 exact this
theorem z3o (N:Nat) (hN:1048600<N) (hc:CdV m c) (hF:FsV m c F):
 zi (zd.r2 N) N (F,zyj c,List.replicate F.length false,(F.length:Int),0,c)=some (F,zyj c,(List.range c.zB.length).map (zwp c F),(F.length:Int),(F.length:Int),c):=by
 have hl:=hc.len
 have:=zdb (f:=zd.r2 N) (fun i=>(F,zyj c,(List.range c.zB.length).map (fun k:Nat=>(decide (k<i)&&z0n c F k)||(List.range i).any fun j=>z8d c F j k),(F.length:Int),(i:Int),c)) F.length (fun i hi=>by
  have hi':i<c.zB.length:=by rw [←hF.len];exact hi
  have hk:=lge hi;have hx:=lge hi';have hv:=hF.v _ (lmg hk);have hix:=hc.ins _ (lmg hx);have hent:(zyj c)[i]?=some (zt9 c i):=zr6 _ hi';have hb:zq0 c F i=zku c.zB[i] F[i]:=by unfold zq0;rw [hx,hk]
  simp only [zd.r2,zd.b2,zau,hx,hk,hent,obs,dct (show(i:Int)<(F.length:Int)by omega),ctr,ifp (show 0≤(i:Int)by omega),itn];rw [ifp (by simp;omega),zr6 _ hi',obs,zm1,obs,orB,obs,ifp (by simp;omega),obs,zab0 N (by omega) hc.m2 hc.sz hix hv.2 (by omega) (by omega),obs,zaga (by omega) hi',obs,zsk,←hb,zaab N hN hc hF hi'];simp only [obs];rw [w6e]
  congr 5
  apply List.map_congr_left;intro k _;have eo:decide ((F[i].length:Int)>0)=decide (0<(zgm F i).length):=by
   unfold zgm;rw [hk]
   by_cases h:0<F[i].length
   · rw [dct (by omega)];symm;exact dct h
   · rw [dcf (by omega)];symm;exact dcf h
  rw [eo,List.range_succ,List.any_append,List.any_cons,List.any_nil,Bool.or_false]
  by_cases ek:k=i
  · subst ek;rw [ifp rfl,dcf (Nat.lt_irrefl k),Bool.false_and,Bool.false_or,dct (Nat.lt_succ_self k),Bool.true_and];show((_||z0n c F k)||_)=(z0n c F k||(_||_));cases z0n c F k<;>simp
  · rw [ifn ek];have:decide (k<i)=decide (k<i+1):=by
     by_cases h:k<i
     · rw [dct h,dct (by omega)]
     · rw [dcf h,dcf (by omega)]
    rw [this,Bool.or_assoc])
  (by simp only [zd.r2,zd.b2,dcf (show ¬(F.length:Int)<(F.length:Int)by omega),cfa]) (show F.length<N by have:=hF.len;omega)
 have e0:((List.range c.zB.length).map (fun k:Nat=>(decide (k<0)&&z0n c F k)||(List.range 0).any fun j=>z8d c F j k))=List.replicate F.length false:=by
  rw [hF.len,z6b];apply List.map_congr_left;intro k _;simp
 simp only [nc0,e0]at this
 rw [this]
 congr 4
 apply List.map_congr_left
 intro k hk
 have hk:k<c.zB.length:=by simpa using hk
 unfold zwp
 rw [dct (show k<F.length by rw [hF.len];exact hk),Bool.true_and,hF.len]
variable {m:zK} {c:zH} {F:List (List zD)}
theorem zac7 (N:Nat) (hN:1048600<N) {F:List (List zD)} (hF:F.length≤1048576) (hl:∀l∈F,l.length≤1048576):
 ∃b,zc3 N F=some b∧(b=true→F.length≤250∧∀l∈F,l.length≤64):=by
 unfold zc3
 have:=zcm (f:=zc3.r0 N) (fun i=>(F,(i:Int))) (fun i=>(F[i]?).bind fun l=>if 64<l.length then some false else none) (min F.length 251)
  (fun i hi=>by
   have hi':i<F.length:=by omega
   have hx:=lge hi';generalize F[i]=l at hx;simp only [zc3.r0,zc3.b0,zau,hx,obs,dct (show(i:Int)<(F.length:Int)by omega),ctr,dct (show(i:Int)≤250 by omega)];rw [w6e]
   by_cases h:64<l.length
   · rw [dct (by omega),ifp h];rfl
   · rw [dcf (by omega),ifn h];rfl)
  (by
   simp only [zc3.r0,zc3.b0]
   by_cases h:F.length≤250
   · rw [show min F.length 251=F.length by omega,dcf (show ¬(F.length:Int)<(F.length:Int)by omega)];rfl
   · rw [show min F.length 251=251 by omega,dcf (show ¬((251:Nat):Int)≤250 by omega)];cases decide (((251:Nat):Int)<(F.length:Int))<;>rfl) (show min F.length 251<N by omega)
 simp only [nc0]at this
 rw [this]
 simp only [obs]
 cases hf:(List.range (min F.length 251)).findSome? (fun i=>(F[i]?).bind fun l=>if 64<l.length then some false else none)with
 | some r=>
  obtain⟨i,_,hr⟩:=eof hf;rw [Option.bind_eq_some_iff]at hr;obtain⟨l,_,hr⟩:=hr;split at hr
  · cases hr;exact⟨false,rfl,fun h=>by cases h⟩
  · cases hr
 | none=>
  refine⟨_,rfl,fun h=> ?_⟩;have h:((F.length:Nat):Int)≤250:=of_decide_eq_true h;have h250:F.length≤250:=by omega
  refine⟨h250,fun l hl=> ?_⟩;obtain⟨i,hi⟩:=List.getElem?_of_mem hl;rw [List.findSome?_eq_none_iff]at hf;have hil:=(gei hi).1;have:=hf i (by simp;omega);rw [hi,obs]at this;split at this
  · cases this
  · omega
theorem zacr (N:Nat) (hN:1048600<N) {F:List (List zD)} (hF:F.length≤250) (hl:∀l∈F,l.length≤64):zc1 N F=some F:=by
 unfold zc1
 have:=coll (f:=zc1.r0 N) F (fun l=>some l) (fun i acc=>(F,acc,(i:Int))) (fun i x acc hx hacc=>by
  have hi:=(gei hx).1;have hxl:=hl x (lmg hx);simp only [zc1.r0,zc1.b0,zau,hx,obs,dct (show(i:Int)<(F.length:Int)by omega),ctr,lnc,ln0,zr2 (show x.length≤1000000000 by omega),zam3 (show acc.length+(0+1)≤1000000 by omega)];rw [w6e];rfl)
  (fun acc=>by simp only [zc1.r0,zc1.b0,dcf (show ¬(F.length:Int)<(F.length:Int)by omega),cfa]) (show F.length<N by omega)
 simp only [nc0]at this
 rw [this]
 simp
theorem zae2 {n:Nat} {F:List (List zD)} (h:Wft En n (Ty.sl (Ty.sl Ty.zD)) F):F.length≤n∧∀l∈F,l.length≤n:=by
 have h1:=h (.lst (Ty.sl Ty.zD) F) (.head _)
 cases h1 with
 | lst h1 h2=>
  refine⟨h1,fun l hl=> ?_⟩;have h3:=h2 l hl (.lst Ty.zD l) (.head _);cases h3 with
  | lst h3 _=>exact h3
theorem zaig:zn7 2000000=some true:=by kernel_rfl
variable {m:zK} {c:zH}
def cnt (p:Nat→Bool):Nat→Nat
 | 0=>0
 | n+1=>cnt p n+cond (p n) 0 1
def upd (p:Nat→Bool) (x:Nat) (k:Nat):Bool:=if k=x then true else p k
theorem z9u (p:Nat→Bool) (x:Nat):∀n,cnt (upd p x) n+cond (decide (x<n)&& !p x) 1 0=cnt p n
 | 0=>by simp [cnt]
 | n+1=>by
  have ih:=z9u p x n;simp only [cnt]
  by_cases e:n=x
  · subst e;rw [dcf (Nat.lt_irrefl n)]at ih;simp only [Bool.false_and,cfa,Nat.add_zero]at ih;rw [dct (Nat.lt_succ_self n),ih];have:upd p n n=true:=by simp [upd]
    rw [this];cases p n<;>simp
  · have h1:upd p x n=p n:=by simp [upd,e]
    have h2:decide (x<n+1)=decide (x<n):=by
     by_cases h:x<n
     · rw [dct h,dct (by omega)]
     · rw [dcf h,dcf (by omega)]
    rw [h1,h2];omega
inductive Rch (c:zH):Nat→Prop
 | ent {k:Nat} (h:k<c.zB.length) (he:zt9 c k=true):Rch c k
 | step {i k:Nat} (h:Rch c i) (hs:(k:Int)∈zfp c i):Rch c k
theorem Rch.lt (hc:CdV m c) {k:Nat} (h:Rch c k):k<c.zB.length:=by
 cases h with
 | ent h _=>exact h
 | step _ hs=>
  obtain⟨k',e,hk⟩:=z85 hc hs;omega
variable {m:zK} {c:zH}
theorem z4k {p q:Nat→Bool}:∀n,(∀k,k<n→p k=q k)→cnt p n=cnt q n
 | 0,_=>rfl
 | n+1,h=>by simp only [cnt];rw [z4k n (fun k hk=>h k (by omega)),h n (by omega)]
structure PS (c:zH) (p0 p:Nat→Bool) (b:Bool):Prop where
 sub:∀k,p0 k=true→p k=true
 r:∀k,k<c.zB.length→p k=true→Rch c k
 f:b=false→∀k,k<c.zB.length→p k=p0 k
 t:b=true→cnt p c.zB.length<cnt p0 c.zB.length
theorem PS.mark {p0 p:Nat→Bool} {b:Bool} (h:PS c p0 p b) {k:Nat} (hk:k<c.zB.length) (hr:Rch c k):PS c p0 (upd p k) (b|| !p k):=by
 have hcu:=z9u p k c.zB.length
 rw [dct hk]at hcu
 refine⟨fun j hj=> ?_,fun j hj hp=> ?_,fun hb j hj=> ?_,fun hb=> ?_⟩
 · unfold upd;split
   · rfl
   · exact h.sub j hj
 · unfold upd at hp;split at hp
   · rename_i e;subst e;exact hr
   · exact h.r j hj hp
 · rw [Bool.or_eq_false_iff,Bool.not_eq_false']at hb;unfold upd;split
   · rename_i e;subst e;rw [←h.f hb.1 j hj,hb.2]
   · exact h.f hb.1 j hj
 · cases b with
   | true=>have:=h.t rfl;omega
   | false=>
    have e:=z4k c.zB.length (h.f rfl);have hp:p k=false:=by simpa using hb
    rw [hp]at hcu;simp at hcu;omega
variable {m:zK} {c:zH}
theorem zag8 {α:Type} {n:Nat} (f:Nat→α) {k:Nat} (h:k<n):((List.range n).map f)[k]?=some (f k):=by
 rw [List.getElem?_map,List.getElem?_range h]
 rfl
def uniL (c:zH):List zD:=(List.range 8).flatMap fun r:Nat=>c.zB.flatMap fun x=>[⟨(r:Int),x.zF,-1⟩,⟨(r:Int),x.zF,x.Place.Offset⟩]
theorem flat_len {α β:Type} (f:α→List β) (k:Nat) (h:∀x,(f x).length=k):∀l:List α,(l.flatMap f).length=l.length*k
 | []=>by simp
 | x::l=>by rw [List.flatMap_cons,lna,h,flat_len f k h l,lnc,Nat.succ_mul];omega
def fxB (c:zH) (R:Nat→Bool) (k:Nat):Bool:=zt9 c k|| !R k
def Nok (c:zH) (R:Nat→Bool) (D:Nat→Bool) (G:Nat→List zD) (i:Nat):Prop:=
 ∀x,c.zB[i]?=some x→∀k:Nat,(k:Int)∈zfp c i→fxB c R k=false→D k=true∧∀f∈G k,Beh x (G i) f
structure Cl (c:zH) (R:Nat→Bool) (D:Nat→Bool) (G:Nat→List zD):Prop where
 fx:∀k,k<c.zB.length→fxB c R k=true→D k=true∧G k=[]
 st:∀i,i<c.zB.length→D i=true→Nok c R D G i
structure Inv (m:zK) (c:zH) (R:Nat→Bool) (D:Nat→Bool) (G:Nat→List zD):Prop where
 so:∀k,zakf (G k)
 ok:∀k,∀f∈G k,FctV m c f
 un:∀k,∀f∈G k,f∈uniL c
 no:∀k,D k=false→G k=[]
 fx:∀k,k<c.zB.length→fxB c R k=true→D k=true∧G k=[]
 ab:∀D' G',Cl c R D' G'→∀k,k<c.zB.length→D k=true→D' k=true∧∀f∈G' k,f∈G k
variable {m:zK} {c:zH} {R:Nat→Bool}
variable {m:zK} {c:zH} {R:Nat→Bool}
variable {m:zK} {c:zH} {R:Nat→Bool}
variable {m:zK} {c:zH}
variable {m:zK} {c:zH}
def knl (x:zA):Bool:=decide (x.Op=0)&& !x.Place.Based
def z0v (l:List zD) (x:zA) (r:Int):Bool:=zot l ⟨r,x.zF,x.Place.Offset⟩
theorem z5c (x:zA):zcc x=some (knl x):=by
 unfold zcc knl
 rw [zbx,zm1,obs]
theorem zad8 (N:Nat) (l:List zD) (x:zA) (r:Int) (h:l.length<N) (hl:l.length<1000000000):zdr N l x r=some (z0v l x r):=by
 unfold zdr z0v
 rw [ztp N l _ h hl]
 rfl
def TrV (c:zH):Prop:=∀t∈c.zQ,0≤t.From∧t.From≤t.To∧t.To≤(c.zB.length:Int)∧0≤t.Handler∧t.Handler<(c.zB.length:Int)
theorem zam2 {n:Nat} (h:n≤1000000000):Nat.ble (n*32) zae=true:=Nat.ble_eq_true_of_le (by show n*32≤2^46;omega)
variable {m:zK} {c:zH}
variable {m:zK} {c:zH}
variable {m:zK} {c:zH}
structure CkV (N:Nat) (m:zK) (c:zH):Prop where
 mo:zns m=some 0
 st:zq3 N c.Storage=some 0
 ok:StoOk c.Storage
 pt:∃l,zd3 N c.Storage=some l∧decide ((l.length:Int)>0)=false
 m1:2≤m.Registers∧m.Registers≤8
 pos:0<c.zB.length
 len:c.zB.length≤240
 tr:c.zQ.length≤40
 tl:c.Storage.Tags.length≤64
 ins:∀x∈c.zB,zmi m c x=0
 trap:∀t∈c.zQ,zm2 c t=true
theorem zaf0 (N:Nat) (hN:1048600<N) {m:zK} {c:zH} (hc:Wft En 1048576 Ty.zH c) {n:Int} (h:zam N m c=some (n,0)):CkV N m c:=by
 obtain⟨e,_,he2,he3⟩:=zru m
 obtain⟨i1,e1,e2,_,hs2,hs⟩:=zve N (by omega) c.Storage
 obtain⟨w1,w2,w3,w4,w5⟩:=zkx hc
 unfold zam at h
 try simp only [eS,eM,eC]at h
 rw [he2,hs2]at h
 simp only [obs]at h
 by_cases h0:e=0
 · subst h0;have hm:=he3 rfl;simp only [bsf,cfa]at h
   by_cases h2:e2=0
   · rcases hs with⟨rfl,hs⟩|⟨ok,htl,_,_⟩
     · exact absurd h2 hs
     · subst h2;obtain⟨l,hl1,hl2⟩:=zyz N c.Storage htl (by omega);rw [hl1]at h;simp only [bsf,cfa,obs,orB]at h;cases hd:decide ((l.length:Int)>0)with
       | true=>rw [hd]at h;cases h
       | false=>
        rw [hd]at h hl2;simp only [cfa]at h
        by_cases hz:(c.zB.length:Int)=0
        · rw [hz]at h;cases h
        · rw [zbx,dcf hz]at h;simp only [cfa]at h;cases hb:(decide ((c.zB.length:Int)>240)||decide ((c.zQ.length:Int)>40))with
          | true=>rw [hb]at h;cases h
          | false=>
           rw [hb]at h;simp only [cfa]at h;have:=zvm N hN hm ok hc;rw [this]at h;simp only [Bool.or_eq_false_iff,decide_eq_false_iff_not]at hb;obtain⟨r1,r2,r3⟩:=zack (Option.some.inj h);exact⟨he2,hs2,ok,⟨l,hl1,hd⟩,hm,by omega,by omega,by omega,htl,r1,r2⟩
   · rw [zde,dct h2]at h;simp only [ctr,Option.some.injEq,Prod.mk.injEq]at h;exact absurd h.2 h2
 · rw [zde,dct h0]at h;simp only [ctr,Option.some.injEq,Prod.mk.injEq]at h;exact absurd h.2 h0
theorem zaby (h:∀t∈c.zQ,zm2 c t=true):TrV c:=by
 intro t ht
 have h0:=h t ht
 unfold zm2 at h0
 simp only [Bool.and_eq_true,decide_eq_true_eq]at h0
 obtain⟨h1,h2,h3,h4⟩:=h0
 have h1:=zay.1 h1
 have h4:=zay.1 h4
 omega
variable {m:zK} {c:zH}
variable {m:zK} {c:zH}
variable {m:zK} {c:zH}
def kI (I:List Int):Nat→Nat
 | 0=>0
 | k+1=>kI I k+cond ((I[k]?).any fun z=>z != -1) 1 0
theorem zaft (I:List Int):∀k,kI I k≤k
 | 0=>Nat.le_refl _
 | k+1=>by have:=zaft I k;simp only [kI];cases(I[k]?).any fun z=>z != -1<;>simp<;>omega
def zt1 (I:List Int):List Int:=(List.range (I.length+1)).map fun k=>(kI I k:Int)
theorem zy6 {I:List Int} {k:Nat} (h:k≤I.length):(zt1 I)[k]?=some (kI I k:Int):=zag8 _ (by omega)
theorem zv5 {I:List Int} {z:Int} (h0:0≤z) (h1:z≤(I.length:Int)):idx (zt1 I) z=some (kI I z.toNat:Int):=by
 have:z=((z.toNat:Nat):Int):=by omega
 rw [this,zau,itn]
 exact zy6 (by omega)
theorem z9f {I:List Int} {k:Nat} {z:Int} (h:I[k]?=some z):kI I (k+1)=kI I k+cond (z != -1) 1 0:=by
 simp only [kI,h,Option.any_some]
theorem z3n (N:Nat) (hN:1000<N) {I:List Int} (hl:I.length≤900):zb0 N I=some (zt1 I):=by
 unfold zb0
 have:=zdb (f:=zb0.r0 N) (fun i=>((List.range (i+1)).map (fun k=>(kI I k:Int)),(kI I i:Int),I,(I.length:Int),(i:Int))) I.length (fun i hi=>by
  have hx:=lge hi;have hk:=zaft I i;have hkc:=z9f hx;generalize I[i]=z at hx hkc;simp only [zb0.r0,zb0.b0,zau,hx,obs,dct (show(i:Int)<(I.length:Int)by omega),ctr,lnm,List.length_range,lnc,ln0,ble8 (show i+1+(0+1)≤1000000 by omega)];rw [w6e (n:=(i:Int)+1),w6e (n:=(kI I i:Int)+1),List.range_succ (n:=i+1),List.map_append,List.map_cons,List.map_nil,hkc];cases(z != -1)<;>rfl)
  (by simp only [zb0.r0,zb0.b0,dcf (Int.lt_irrefl _),cfa]) (show I.length<N by omega)
 have e:((List.range (0+1)).map (fun k=>(kI I k:Int)))=[0]:=rfl
 simp only [nc0,e,show(kI I 0:Int)=0 from rfl]at this
 rw [this]
 rfl
variable {m:zK} {c:zH} {x:Optimization}
def eqI (z w:zA):Bool:=zdq [(z.Op==w.Op),(z.R==w.R),(z.A==w.A),(z.B==w.B),(z.zM==w.zM),(z.Place.Based==w.Place.Based),(z.Place.Pointer==w.Place.Pointer),(z.Place.Offset==w.Place.Offset),(z.From.Based==w.From.Based),(z.From.Pointer==w.From.Pointer),(z.From.Offset==w.From.Offset),(z.zF.Kind==w.zF.Kind),(z.zF.Length==w.zF.Length),(z.zF.Scale==w.zF.Scale),(z.Second.Kind==w.Second.Kind),(z.Second.Length==w.Second.Length),(z.Second.Scale==w.Second.Scale),(z.Half==w.Half),(z.zO==w.zO),(z.Number.N==w.Number.N),(z.Number.Scale==w.Number.Scale),(z.Text==w.Text),(z.Other==w.Other),(z.Mask==w.Mask),(z.Target==w.Target),(z.Pointer==w.Pointer),(z.Source==w.Source)]
theorem zahl (z w:zA):zdq [(z.Op==w.Op),(z.R==w.R),(z.A==w.A),(z.B==w.B),(z.zM==w.zM),(z.Place.Based==w.Place.Based),(z.Place.Pointer==w.Place.Pointer),(z.Place.Offset==w.Place.Offset),(z.From.Based==w.From.Based),(z.From.Pointer==w.From.Pointer),(z.From.Offset==w.From.Offset),(z.zF.Kind==w.zF.Kind),(z.zF.Length==w.zF.Length),(z.zF.Scale==w.zF.Scale),(z.Second.Kind==w.Second.Kind),(z.Second.Length==w.Second.Length),(z.Second.Scale==w.Second.Scale),(z.Half==w.Half),(z.zO==w.zO),(z.Number.N==w.Number.N),(z.Number.Scale==w.Number.Scale),(z.Text==w.Text),(z.Other==w.Other),(z.Mask==w.Mask),(z.Target==w.Target),(z.Pointer==w.Pointer),(z.Source==w.Source)]=eqI z w:=rfl
def cpI (y:zA) (a:Int):zA:=⟨3,y.R,a,0,0,⟨false,0,0⟩,⟨false,0,0⟩,⟨0,0,0⟩,⟨0,0,0⟩,false,false,⟨0,0⟩,⟨#[]⟩,⟨#[]⟩,0,0,0,0⟩
theorem zahm (z y:zA):zdq [(z.Op==3),(z.R==y.R),(z.A==z.A),(z.B==0),(z.zM==0),(z.Place.Based==false),(z.Place.Pointer==0),(z.Place.Offset==0),(z.From.Based==false),(z.From.Pointer==0),(z.From.Offset==0),(z.zF.Kind==0),(z.zF.Length==0),(z.zF.Scale==0),(z.Second.Kind==0),(z.Second.Length==0),(z.Second.Scale==0),(z.Half==false),(z.zO==false),(z.Number.N==0),(z.Number.Scale==0),(z.Text==(⟨#[]⟩:ByteArray)),(z.Other==(⟨#[]⟩:ByteArray)),(z.Mask==0),(z.Target==0),(z.Pointer==0),(z.Source==0)]=eqI z (cpI y z.A):=rfl
def tgI (y:zA) (t:Int):zA:=⟨y.Op,y.R,y.A,y.B,y.zM,y.Place,y.From,y.zF,y.Second,y.Half,y.zO,y.Number,y.Text,y.Other,y.Mask,t,y.Pointer,y.Source⟩
def zto (I:List Int) (y:zA):zA:=if zgs y.Op=true then tgI y (kI I y.Target.toNat:Int)else y
theorem zaaa {I:List Int} {y:zA} (hy:zgs y.Op=true→0≤y.Target∧y.Target<(I.length:Int)):zf7 y (zt1 I)=some (zto I y):=by
 unfold zf7 zto
 rw [z5d,obs]
 cases hj:zgs y.Op with
 | false=>rfl
 | true=>
  have:=hy hj;rw [ctr,zv5 (by omega) (by omega),obs,ifp rfl];rfl
def rgt (x:Optimization) (i:Nat) (y:zA) (k:Int) (l:List zD):Bool:=
 if k= -1 then(!decide (i+1=x.Before.zB.length)&&knl y)&&z0v l y y.R
 else if k=(kI x.Proof.Index i:Int)∧k<(x.After.zB.length:Int)then
  (match x.After.zB[kI x.Proof.Index i]? with|some z=>eqI z (zto x.Proof.Index y)||((knl y&&eqI z (cpI y z.A))&&z0v l y z.A)|none=>false)
 else false
def z5z (x:Optimization) (i:Nat):Bool:=match x.Before.zB[i]?,x.Proof.Index[i]?,x.Proof.Facts[i]? with
 | some y,some k,some l=>rgt x i y k l
 | _,_,_=>false
structure OptV (x:Optimization):Prop where
 len:x.Before.zB.length≤240
 ix:x.Proof.Index.length=x.Before.zB.length
 fx:x.Proof.Facts.length=x.Before.zB.length
 fl:∀l∈x.Proof.Facts,l.length≤64
 tg:∀y∈x.Before.zB,zgs y.Op=true→0≤y.Target∧y.Target<(x.Before.zB.length:Int)
theorem zaha {i n:Nat} (h:n≤240) (hi:i<n):((i:Int)==w6 ((n:Int)-1))=decide (i+1=n):=by
 rw [w6e,zbx]
 by_cases h:i+1=n
 · rw [dct h,dct (by omega)]
 · rw [dcf h,dcf (by omega)]
theorem zagb (N:Nat) (hN:1000<N) (h:OptV x) {i:Nat} {y:zA} {k:Int} {l:List zD} (hy:x.Before.zB[i]?=some y) (hk:x.Proof.Index[i]?=some k) (hl:x.Proof.Facts[i]?=some l):
 zh3 N x (i:Int) (zt1 x.Proof.Index)=some (cond (rgt x i y k l) 0 42):=by
 have hi:=(gei hy).1
 have hll:=h.fl l (lmg hl)
 have hlen:=h.len
 have hix:=h.ix
 have ht:=h.tg y (lmg hy)
 have hh:∀r,zdr N l y r=some (z0v l y r):=fun r=>zad8 N l y r (by omega) (by omega)
 have htc:∀(b:Bool) (z:Int),zek b z=some (cond b z 0):=fun b z=>by cases b<;>rfl
 unfold zh3 rgt
 rw [zau,hy,zau,hk,zau,hl,zau,zy6 (by omega)]
 simp only [obs,z5c,hh,htc,zaha hlen hi,zbx]
 by_cases h1:k= -1
 · subst h1;rw [ifp rfl];simp only [decide_true,ctr];cases decide ((-1:Int)=(kI x.Proof.Index i:Int))<;>cases decide (i+1=x.Before.zB.length)<;>cases knl y<;>cases z0v l y y.R<;>rfl
 · rw [ifn h1,dcf h1];simp only [cfa]
   by_cases h2:k=(kI x.Proof.Index i:Int)
   · rw [dct h2]
     by_cases h3:k<(x.After.zB.length:Int)
     · rw [dct h3,ifp ⟨h2,h3⟩];subst h2;have hz:=lge (show kI x.Proof.Index i<x.After.zB.length by omega);generalize x.After.zB[kI x.Proof.Index i]=z at hz;rw [zau,hz];unfold zj9;rw [zaaa (by rw [hix];exact ht)];simp only [obs,ctr,z5c,hh,zahl,zahm];cases eqI z (zto x.Proof.Index y)<;>cases knl y<;>cases eqI z (cpI y z.A)<;>cases z0v l y z.A<;>rfl
     · rw [dcf h3,ifn fun h=>h3 h.2];rfl
   · rw [dcf h2,ifn fun h=>h2 h.1];rfl
variable {m:zK} {c:zH} {x:Optimization}
def z04 (p q:List Bool) (i:Nat):Option Bool:=(p[i]?).bind fun u=>(q[i]?).bind fun v=>if u=v then none else some false
def zzy (K:Nat→Nat) (t:zT):zT:=⟨(K t.From.toNat:Int),(K t.To.toNat:Int),t.Exception,(K t.Handler.toNat:Int)⟩
theorem z3m (N:Nat) {I:List Int} {l:List zT} (hN:l.length<N) (hl:l.length≤1048576) (ht:∀t∈l,0≤t.From∧t.From≤t.To∧t.To≤(I.length:Int)∧0≤t.Handler∧t.Handler<(I.length:Int)):zbz N l (zt1 I)=some (l.map (zzy (kI I))):=by
 unfold zbz
 have:=coll (f:=zbz.r0 N) l (fun t=>some (zzy (kI I) t)) (fun i acc=>(zt1 I,acc,l,(l.length:Int),(i:Int))) (fun i t acc hx hacc=>by
  have hi:=(gei hx).1;obtain⟨h1,h2,h3,h4,h5⟩:=ht t (lmg hx);simp only [zbz.r0,zbz.b0,zau,hx,obs,dct (show(i:Int)<(l.length:Int)by omega),ctr,zv5 (I:=I) h1 (show t.From≤_ by omega),zv5 (I:=I) (show 0≤t.To by omega) h3,zv5 (I:=I) h4 (show t.Handler≤_ by omega),lnc,ln0,zam2 (show acc.length+(0+1)≤1000000000 by omega)];rw [w6e];rfl)
  (fun acc=>by simp only [zbz.r0,zbz.b0,dcf (Int.lt_irrefl _),cfa]) hN
 simp only [nc0]at this
 rw [this]
 simp only [obs]
 congr 1
 rw [←List.filterMap_eq_map]
 rfl
def zxd (p q:List zT) (i:Nat):Bool:=match p[i]?,q[i]? with
 | some u,some v=> !zdq [(u.From==v.From),(u.To==v.To),(u.Exception==v.Exception),(u.Handler==v.Handler)]
 | _,_=>false
theorem zxe (N:Nat) {p q:List zT} (e:p.length=q.length) (h:p.length<N) (hl:p.length<1000000000):zal N p q=some (match(List.range p.length).findSome? (fun i=>if zxd p q i=true then some false else none)with|some b=>b|none=>true):=by
 unfold zal
 rw [zde,dcf (show ¬(p.length:Int)≠(q.length:Int)by omega)]
 have l1:=zcm (f:=zal.r0 N) (fun i=>(p,q,(p.length:Int),(i:Int))) (fun i=>if zxd p q i=true then some false else none) p.length (fun i hi=>by
  have hx:=lge hi;have hy:=lge (show i<q.length by omega);generalize p[i]=u at hx;generalize q[i]=v at hy;simp only [zal.r0,zal.b0,zxd,zau,hx,hy,obs,dct (show(i:Int)<(p.length:Int)by omega),ctr];rw [w6e];cases zdq [(u.From==v.From),(u.To==v.To),(u.Exception==v.Exception),(u.Handler==v.Handler)]<;>rfl)
  (by simp only [zal.r0,zal.b0,dcf (Int.lt_irrefl _),cfa]) h
 simp only [nc0]at l1
 rw [cfa,l1]
 cases(List.range p.length).findSome? (fun i=>if zxd p q i=true then some false else none)<;>rfl
def zyo (x:Optimization) (i:Nat):Option (Int × Int):=if z5z x i=true then none else some ((i:Int),42)
theorem z89 {i:Nat} {y:zA} {k:Int} {l:List zD} (hy:x.Before.zB[i]?=some y) (hk:x.Proof.Index[i]?=some k) (hl:x.Proof.Facts[i]?=some l):z5z x i=rgt x i y k l:=by
 unfold z5z
 rw [hy,hk,hl]
theorem z5a (N:Nat) (hN:1000<N) (h:OptV x):zp (zac.r0 N) N ((x.Before.zB.length:Int),zt1 x.Proof.Index,(x.Before.zB.length:Int),0,x)=
 some (match(List.range x.Before.zB.length).findSome? (zyo x)with|some b=> .inl b|none=> .inr ((x.Before.zB.length:Int),zt1 x.Proof.Index,(x.Before.zB.length:Int),(x.Before.zB.length:Int),x)):=by
 have hlen:=h.len
 have l1:=zcm (f:=zac.r0 N) (fun i=>((x.Before.zB.length:Int),zt1 x.Proof.Index,(x.Before.zB.length:Int),(i:Int),x)) (zyo x) x.Before.zB.length (fun i hi=>by
  have hy:=lge hi;have hk:=lge (show i<x.Proof.Index.length by rw [h.ix];exact hi);have hl:=lge (show i<x.Proof.Facts.length by rw [h.fx];exact hi);simp only [zac.r0,zac.b0];rw [dct (show(i:Int)<(x.Before.zB.length:Int)by omega),zagb N hN h hy hk hl,w6e];unfold zyo;rw [z89 hy hk hl];cases rgt x i _ _ _<;>rfl)
  (by simp only [zac.r0,zac.b0];rw [dcf (Int.lt_irrefl _),cfa]) (show x.Before.zB.length<N by omega)
 simp only [nc0]at l1
 rw [l1]
 cases(List.range x.Before.zB.length).findSome? (zyo x)<;>rfl
variable {m:zK} {c:zH} {x:Optimization}
structure OptW (x:Optimization):Prop where
 b:Wft En 1048576 Ty.zH x.Before
 a:Wft En 1048576 Ty.zH x.After
 f:Wft En 1048576 (Ty.sl (Ty.sl Ty.zD)) x.Proof.Facts
 i:x.Proof.Index.length≤1048576
theorem zai8 (h:Wft En 1048576 Ty.Optimization x):OptW x:=by
 have k:∀u,u∈zok x→Wfc En 1048576 u:=h
 simp only [zok,List.mem_cons,List.not_mem_nil,or_false]at k
 refine⟨fun u hu=> ?_,fun u hu=> ?_,fun u hu=> ?_,?_⟩
 · have hu:u∈zje x.Before:=hu;simp only [zje,List.mem_cons,List.not_mem_nil,or_false]at hu;rcases hu with rfl|rfl|rfl|rfl<;>exact k _ (by simp)
 · have hu:u∈zje x.After:=hu;simp only [zje,List.mem_cons,List.not_mem_nil,or_false]at hu;rcases hu with rfl|rfl|rfl|rfl<;>exact k _ (by simp)
 · have hu:u∈[(AV.lst (Ty.sl Ty.zD) x.Proof.Facts:AV U)]:=hu;rw [List.mem_singleton]at hu;subst hu;exact k _ (by simp)
 · have:=k (.lst (Ty.int .i64) x.Proof.Index) (by simp);cases this with
   | lst h1 _=>exact h1
theorem zahi (N:Nat) (hN:1048600<N) (h:OptW x):∃b,zfy N x=some b∧(b=true→x.Proof.Facts.length≤250∧(∀l∈x.Proof.Facts,l.length≤64)∧x.Proof.Index.length≤250):=by
 obtain⟨b1,h1⟩:=z4b N hN h.b
 obtain⟨b2,h2⟩:=z4b N hN h.a
 obtain⟨f1,f2⟩:=zae2 h.f
 obtain⟨b3,h3,h4⟩:=zac7 N hN f1 f2
 unfold zfy
 rw [h1,h2,h3]
 simp only [obs]
 cases b1 with
 | false=>exact⟨false,rfl,fun h=>by cases h⟩
 | true=>
  cases b2 with
  | false=>exact⟨false,rfl,fun h=>by cases h⟩
  | true=>
   cases b3 with
   | false=>exact⟨false,rfl,fun h=>by cases h⟩
   | true=>exact⟨_,rfl,fun h=>⟨(h4 rfl).1,(h4 rfl).2,by have:=of_decide_eq_true h;omega⟩⟩
theorem zag1 (N:Nat) (hN:1048600<N) (h:OptW x) (hF:x.Proof.Facts.length≤250) (hl:∀l∈x.Proof.Facts,l.length≤64):zfx N x=some x:=by
 have hi:=h.i
 unfold zfx zlu zjg
 rw [zvz h.b,zvz h.a,zacr N hN hF hl,show Nat.ble (x.Proof.Index.length*8) zae=true from Nat.ble_eq_true_of_le (by unfold zae;omega)]
 rfl
theorem zua (N:Nat) (hN:1048600<N) (m:zK) {c:zH} {F:List (List zD)} (hF:F.length≤250) {r:Int} (h:zd N m c F=some (r,0)):F.length=c.zB.length:=by
 unfold zd at h
 rw [Option.bind_eq_some_iff]at h
 obtain⟨e,he,h⟩:=h
 have ec:∀(b:Bool) (z:Int),zek b z=some (cond b z 0):=fun b z=>by cases b<;>rfl
 rw [ec,obs,zr9 N [e,cond ((F.length:Int) !=(c.zB.length:Int)) 6 0] (by show 2<N;omega) (by show 2<1000000000;omega),obs]at h
 refine cbc fun hne=> ?_
 rw [show((F.length:Int) !=(c.zB.length:Int))=true by rw [zde,dct (show(F.length:Int)≠(c.zB.length:Int)by omega)]]at h
 by_cases h0:e=0
 · subst h0;have e1:zcu [0,cond true 6 0]=6:=rfl;rw [e1]at h;simp only [show((6:Int) !=0)=true from rfl,ctr]at h;cases h
 · have e1:zcu [e,cond true 6 0]=e:=by simp [zcu,h0]
   rw [e1,show(e !=0)=true by simpa using h0]at h;simp only [ctr]at h;cases h;exact h0 rfl
end
end Go.Proofs.YtbmfjmakahmclaaGreatDoor.M
