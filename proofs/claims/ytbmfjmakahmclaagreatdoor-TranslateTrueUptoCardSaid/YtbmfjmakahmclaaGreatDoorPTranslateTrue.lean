/- TranslateTrue: the law answers true for every input of bulk at most 1048576, and its arguments read as they did; by the seat's second form, tied to the program's text. -/
import Derived.Test.YtbmfjmakahmclaaGreatDoorPTranslateTruex1
import Derived.Test.YtbmfjmakahmclaaGreatDoorWTranslateTrue
namespace Go.Proofs.YtbmfjmakahmclaaGreatDoor.M
open Go Go.Amx
set_option linter.unusedVariables false
set_option linter.unusedSimpArgs false
set_option maxRecDepth 100000
noncomputable section
section
variable {m:zJ} {c:zH} {s:zC}
theorem zzc {op:Int} {a b:Number} {t:DataType} {half:Bool} (h:(zfo op a b t half).2=0): -((10^t.Length.toNat:Nat):Int)<(zfo op a b t half).1.N∧(zfo op a b t half).1.N<((10^t.Length.toNat:Nat):Int):=by
 unfold zfo at h⊢
 by_cases h1:(op=3∨op=4)∧b.N=0
 · rw [ifp h1]at h;cases h
 · rw [ifn h1]at h⊢
   by_cases h2:op=0
   · rw [ifp h2]at h⊢;exact znn h
   · rw [ifn h2]at h⊢
     by_cases h3:op=1
     · rw [ifp h3]at h⊢;exact znn h
     · rw [ifn h3]at h⊢
       by_cases h4:op=2
       · rw [ifp h4]at h⊢;exact znn h
       · rw [ifn h4]at h⊢
         by_cases h5:op=3
         · rw [ifp h5]at h⊢;exact znn h
         · rw [ifn h5]at h⊢;exact znn h
theorem zagy {t:DataType} (ht:zij t) {n:Int} (h: -((10^t.Length.toNat:Nat):Int)<n∧n<((10^t.Length.toNat:Nat):Int)):zew ⟨n,t.Scale⟩:=by
 obtain⟨⟨l1,l2⟩,l3,l4⟩:=zgb ht
 have hpw:10^t.Length.toNat≤10^15:=zdj (by omega)
 refine⟨⟨?_,?_⟩,l3,?_⟩
 · show-999999999999999≤n;omega
 · show n≤999999999999999;omega
 · show t.Scale≤15;omega
theorem z6f (N:Nat) (hN:20000<N) (hs:StV m c s) (m8:m.Registers≤8) {x:zB} (hr:0≤x.R∧x.R<m.Registers) (ha:0≤x.A∧x.A<m.Registers) (ht:zij x.zF) (ho:0≤x.zM∧x.zM≤4) {b:Number} (hb:zew b):
 (∃e,(e=3∨e=2)∧(if(zfo x.zM (rg s x.A) b x.zF false).2=20 then(.error 3:Except Int (Int × zC))else if(zfo x.zM (rg s x.A) b x.zF false).2≠0 then .error 2 else .ok (s.At+1,updR s x.R ⟨(zfo x.zM (rg s x.A) b x.zF false).1.N,x.zF.Scale⟩))= .error e∧
  ((zf0 N x.zM (rg s x.A) b x.zF false).bind fun r3=>(zad ⟨s,c,0⟩ (r3.2==20) 3).bind fun r4=>cond r4.1 ((zad r4.2 (r3.2 !=0) 2).bind fun r5=>cond r5.1 ((za2 r5.2 x.R (⟨r3.1.N,x.zF.Scale⟩:Number)).bind fun r6=>some r6) (some r5.2)) (some r4.2))=some ⟨s,c,e⟩∧
  ((zda N (⟨x.zM,x.zF,false⟩:yA) (rg s x.A) b).bind fun r19=>cond (r19.2==20) (some ((3:Int),s)) (cond (r19.2 !=0) (some (2,s)) (if 0≤x.R then(if x.R<(s.Registers.length:Int)then((s.Registers[x.R.toNat]?).bind fun _=>some (0,updR s x.R ⟨r19.1.N,x.zF.Scale⟩))else none)else none)))=some (e,s))∨
 ∃n,zew n∧(if(zfo x.zM (rg s x.A) b x.zF false).2=20 then(.error 3:Except Int (Int × zC))else if(zfo x.zM (rg s x.A) b x.zF false).2≠0 then .error 2 else .ok (s.At+1,updR s x.R ⟨(zfo x.zM (rg s x.A) b x.zF false).1.N,x.zF.Scale⟩))= .ok (s.At+1,updR s x.R n)∧
  ((zf0 N x.zM (rg s x.A) b x.zF false).bind fun r3=>(zad ⟨s,c,0⟩ (r3.2==20) 3).bind fun r4=>cond r4.1 ((zad r4.2 (r3.2 !=0) 2).bind fun r5=>cond r5.1 ((za2 r5.2 x.R (⟨r3.1.N,x.zF.Scale⟩:Number)).bind fun r6=>some r6) (some r5.2)) (some r4.2))=some ⟨updR s x.R n,c,0⟩∧
  ((zda N (⟨x.zM,x.zF,false⟩:yA) (rg s x.A) b).bind fun r19=>cond (r19.2==20) (some ((3:Int),s)) (cond (r19.2 !=0) (some (2,s)) (if 0≤x.R then(if x.R<(s.Registers.length:Int)then((s.Registers[x.R.toNat]?).bind fun _=>some (0,updR s x.R ⟨r19.1.N,x.zF.Scale⟩))else none)else none)))=some (0,updR s x.R n):=by
 obtain⟨g1,g2,g3,g4,g5⟩:=zgh hs hr
 obtain⟨f1,f2,f3,f4,f5⟩:=zgh hs ha
 rw [zae1 N (by omega) ho f5 hb ht,z7q N (by omega) ho f5 hb ht]
 simp only [obs]
 rw [zim _ _ _ _ (by decide)]
 simp only [obs,zbc]
 by_cases h20:(zfo x.zM (rg s x.A) b x.zF false).2=20
 · left;rw [dct h20,ifp h20];exact⟨3,.inl rfl,rfl,rfl,rfl⟩
 · rw [dcf h20,ifn h20];simp only [Bool.not_false,ctr,cfa];rw [zim _ _ _ _ (by decide)];simp only [obs]
   by_cases h0:(zfo x.zM (rg s x.A) b x.zF false).2=0
   · right;have hn:=zagy ht (zzc h0);rw [ifn (by rw [h0];decide),h0];refine⟨_,hn,rfl,?_,?_⟩
     · simp only [bsf,Bool.not_false,ctr,cfa];rw [zxp hs m8 hr];rfl
     · simp only [bsf,cfa];rw [ifp g1,ifp g2,g3];rfl
   · left;rw [ifp h0,zdq,dct h0];exact⟨2,.inr rfl,rfl,rfl,rfl⟩
theorem ex_4 (s:zC) {x:zB} (hop:x.Op=4):zai s x=(match(if x.zP=true then zq7 s.Storage x.Place x.Second else .ok (rg s x.B))with
 | .error e=> .error e
 | .ok b=>if(zfo x.zM (rg s x.A) b x.zF false).2=20 then .error 3 else if(zfo x.zM (rg s x.A) b x.zF false).2≠0 then .error 2 else .ok (s.At+1,updR s x.R ⟨(zfo x.zM (rg s x.A) b x.zF false).1.N,x.zF.Scale⟩)):=by
 cases x;cases hop;rfl
theorem hx_4 (N:Nat) (M:zG) {x:zB} (hop:x.Op=4):zf N M x=(cond x.zP ((zd7 N M x.Place x.Second).bind fun r1=>cond (!r1.2.1) (some r1.2.2) ((idx r1.2.2.zC.Registers x.A).bind fun x2=>
 (zf0 N x.zM x2 r1.1 x.zF false).bind fun r3=>(zad r1.2.2 (r3.2==20) 3).bind fun r4=>
 cond r4.1 ((zad r4.2 (r3.2 !=0) 2).bind fun r5=>cond r5.1 ((za2 r5.2 x.R (⟨r3.1.N,x.zF.Scale⟩:Number)).bind fun r6=>some r6)
 (some r5.2)) (some r4.2))) ((idx M.zC.Registers x.B).bind fun x7=>(idx M.zC.Registers x.A).bind fun x8=>
 (zf0 N x.zM x8 x7 x.zF false).bind fun r9=>(zad M (r9.2==20) 3).bind fun r10=>
 cond r10.1 ((zad r10.2 (r9.2 !=0) 2).bind fun r11=>cond r11.1 ((za2 r11.2 x.R (⟨r9.1.N,x.zF.Scale⟩:Number)).bind fun r12=>
 some r12) (some r11.2)) (some r10.2))).bind fun r=>some (w6 (r.zC.At+1),r):=by
 cases x;cases hop;rfl
theorem rx_4 (N:Nat) {x:zB} (hop:x.Op=4) (hi:idx c.zA s.At=some x):ze N c s=(cond x.zP ((zgv N s x.Place x.Second).bind fun r17=>cond (r17.2 !=0) (some (r17.2,s))
 (if 0≤x.A then(if x.A<(s.Registers.length:Int)then((s.Registers[x.A.toNat]?).bind fun x18=>
 (zda N (⟨x.zM,x.zF,false⟩:yA) x18 r17.1).bind fun r19=>cond (r19.2==20) (some (3,s)) (cond (r19.2 !=0) (some (2,s)) (if 0≤x.R then(if x.R<(s.Registers.length:Int)then((s.Registers[x.R.toNat]?).bind fun _=>some (0,updR s x.R ⟨r19.1.N,x.zF.Scale⟩))else none)else none)))else none)else none))
 (if 0≤x.B then(if x.B<(s.Registers.length:Int)then((s.Registers[x.B.toNat]?).bind fun x21=>
 if 0≤x.A then(if x.A<(s.Registers.length:Int)then((s.Registers[x.A.toNat]?).bind fun x22=>
 (zda N (⟨x.zM,x.zF,false⟩:yA) x22 x21).bind fun r19=>cond (r19.2==20) (some (3,s)) (cond (r19.2 !=0) (some (2,s)) (if 0≤x.R then(if x.R<(s.Registers.length:Int)then((s.Registers[x.R.toNat]?).bind fun _=>some (0,updR s x.R ⟨r19.1.N,x.zF.Scale⟩))else none)else none)))else none)else none)else none)else none)).bind fun r=>some (w6 (s.At+1),r.1,r.2):=by
 unfold ze
 rw [hi,obs]
 clear hi
 cases x;cases hop;rfl
theorem zah5 (N:Nat) (hN:20000<N) (hc:CodeV m c) (hs:StV m c s) {x:zB} (hx:c.zA[s.At.toNat]?=some x) (hop:x.Op=4):zcr N m c s x:=by
 have hi:idx c.zA s.At=some x:=by unfold idx;rw [ifp hs.at0,hx]
 have m8:=hc.m2
 have a0:=hs.at0
 have a1:=hs.at1
 have n240:=hc.len
 have wn1:w6 (s.At+1)=s.At+1:=w6e
 unfold zcr
 rw [ex_4 s hop,hx_4 N _ hop,rx_4 N hop hi]
 by_cases hst:x.zP=true
 · have iv:=zf1 hc (lmg hx) hop (U:=⟨true,true,false,true,false,false,false,true,false,false,false,false,false,false,1,1⟩) (by rw [hst];rfl);obtain⟨f1,f2,f3,f4,f5⟩:=zgh hs (iv.a rfl);have hp:zcn s.Storage x.Place (szE x.Second)=true:=by rw [ze5 hs.size];have:=iv.pl rfl;unfold zdp at this;rw [ifp hop]at this;exact this
   rw [hst];simp only [ctr,if_true];rcases z47 N (by omega) s c hs.sto (iv.se1 rfl) hp with⟨e,b,k,he,h1,h2,h3⟩|⟨n,h1,h2,h3,h4⟩
   · rw [h1,h2,h3];refine .inl ⟨e,_,w6 (s.At+1),s,rfl,by omega,rfl,?_⟩;rcases he with rfl|rfl|rfl<;>rfl
   · rw [h1,h2,h3];simp only [obs,bnt,cfa,bsf];rw [f4,ifp f1,ifp f2,f3];simp only [obs];rcases z6f (c:=c) N hN hs m8 (iv.r rfl) (iv.a rfl) (iv.ty1 rfl) (iv.ca rfl) h4 with⟨e,he,k1,k2,k3⟩|⟨n,hn,k1,k2,k3⟩
     · rw [k1,k2,k3];exact .inl ⟨e,_,w6 (s.At+1),s,rfl,by omega,rfl,rfl⟩
     · rw [k1,k2,k3];refine .inr ⟨_,_,_,rfl,?_,?_,fun _=>⟨rfl,by omega,by omega⟩,hs.updR hn,rfl,rfl,rfl⟩
       · show some (w6 (s.At+1),_)=_;rw [wn1]
       · show some (w6 (s.At+1),_)=_;rw [wn1]
 · have hst':x.zP=false:=by simpa using hst
   have iv:=zf1 hc (lmg hx) hop (U:=⟨true,true,true,false,false,false,false,true,false,false,false,false,false,false,1,0⟩) (by rw [hst'];rfl);obtain⟨f1,f2,f3,f4,f5⟩:=zgh hs (iv.a rfl);obtain⟨b1,b2,b3,b4,b5⟩:=zgh hs (iv.b rfl);rw [hst'];simp only [cfa,Bool.false_eq_true,if_false];rw [b4,obs,f4,ifp b1,ifp b2,b3];simp only [obs];rw [ifp f1,ifp f2,f3];simp only [obs];rcases z6f (c:=c) N hN hs m8 (iv.r rfl) (iv.a rfl) (iv.ty1 rfl) (iv.ca rfl) b5 with⟨e,he,k1,k2,k3⟩|⟨n,hn,k1,k2,k3⟩
   · rw [k1,k2,k3];exact .inl ⟨e,_,w6 (s.At+1),s,rfl,by omega,rfl,rfl⟩
   · rw [k1,k2,k3];refine .inr ⟨_,_,_,rfl,?_,?_,fun _=>⟨rfl,by omega,by omega⟩,hs.updR hn,rfl,rfl,rfl⟩
     · show some (w6 (s.At+1),_)=_;rw [wn1]
     · show some (w6 (s.At+1),_)=_;rw [wn1]
theorem ex_6 (s:zC) {x:zB} (hop:x.Op=6):zai s x=(.ok (cond (zj .i64 s.Condition x.Mask !=0) x.Target (s.At+1),s)):=by
 cases x;cases hop;rfl
theorem hx_6 (N:Nat) (M:zG) {x:zB} (hop:x.Op=6):zf N M x=(cond ((zj .i64 M.zC.Condition x.Mask) !=0) (some (x.Target,M)) (some ((w6 (M.zC.At+1)),M))).bind fun r=>some (r.1,r.2):=by
 cases x;cases hop;rfl
theorem rx_6 (N:Nat) {x:zB} (hop:x.Op=6) (hi:idx c.zA s.At=some x):ze N c s=cond ((zj .i64 x.Mask s.Condition) !=0) (some (x.Target,0,s)) (some ((w6 (s.At+1)),0,s)):=by
 unfold ze
 rw [hi,obs]
 clear hi
 cases x;cases hop;rfl
theorem zah3 (N:Nat) (hN:20000<N) (hc:CodeV m c) (hs:StV m c s) {x:zB} (hx:c.zA[s.At.toNat]?=some x) (hop:x.Op=6):zcr N m c s x:=by
 have iv:=zf1 hc (lmg hx) hop (U:=⟨false,false,false,false,false,false,false,false,true,true,false,false,false,false,0,0⟩) rfl
 have hi:idx c.zA s.At=some x:=by unfold idx;rw [ifp hs.at0,hx]
 have m8:=hc.m2
 have a0:=hs.at0
 have a1:=hs.at1
 have n240:=hc.len
 have wn1:w6 (s.At+1)=s.At+1:=w6e
 unfold zcr
 rw [ex_6 s hop,hx_6 N _ hop,rx_6 N hop hi]
 have ht:=iv.tg rfl
 rw [z3m x.Mask s.Condition]
 simp only [wn1]
 cases(zj .i64 s.Condition x.Mask !=0)with
 | true=>exact .inr ⟨_,_,_,rfl,rfl,rfl,fun _=>⟨rfl,by show 0≤x.Target;omega,by show x.Target≤_;omega⟩,hs,rfl,rfl,rfl⟩
 | false=>exact .inr ⟨_,_,_,rfl,rfl,rfl,fun _=>⟨rfl,by show 0≤s.At+1;omega,by show s.At+1≤_;omega⟩,hs,rfl,rfl,rfl⟩
theorem ex_7 (s:zC) {x:zB} (hop:x.Op=7):zai s x=(.ok (cond (zj .i64 (zn1 s x.A x.B) x.Mask !=0) x.Target (s.At+1),s)):=by
 cases x;cases hop;rfl
theorem hx_7 (N:Nat) (M:zG) {x:zB} (hop:x.Op=7):zf N M x=((zcz N M x).bind fun r3=>cond ((zj .i64 r3 x.Mask) !=0) (some (x.Target,M)) (some ((w6 (M.zC.At+1)),M))).bind fun r=>some (r.1,r.2):=by
 cases x;cases hop;rfl
theorem rx_7 (N:Nat) {x:zB} (hop:x.Op=7) (hi:idx c.zA s.At=some x):ze N c s=if 0≤x.A then(if x.A<(s.Registers.length:Int)then((s.Registers[x.A.toNat]?).bind fun x2=>
 if 0≤x.B then(if x.B<(s.Registers.length:Int)then((s.Registers[x.B.toNat]?).bind fun x3=>(zgx N x2 x3).bind fun r4=>(zc3 r4).bind fun r5=>
 cond ((zj .i64 x.Mask r5) !=0) (some (x.Target,0,s)) (some ((w6 (s.At+1)),0,s)))else none)else none)else none)else none:=by
 unfold ze
 rw [hi,obs]
 clear hi
 cases x;cases hop;rfl
theorem zah2 (N:Nat) (hN:20000<N) (hc:CodeV m c) (hs:StV m c s) {x:zB} (hx:c.zA[s.At.toNat]?=some x) (hop:x.Op=7):zcr N m c s x:=by
 have iv:=zf1 hc (lmg hx) hop (U:=⟨false,true,true,false,false,false,false,false,true,true,false,false,false,false,0,0⟩) rfl
 have hi:idx c.zA s.At=some x:=by unfold idx;rw [ifp hs.at0,hx]
 have m8:=hc.m2
 have a0:=hs.at0
 have a1:=hs.at1
 have n240:=hc.len
 have wn1:w6 (s.At+1)=s.At+1:=w6e
 unfold zcr
 rw [ex_7 s hop,hx_7 N _ hop,rx_7 N hop hi]
 have ht:=iv.tg rfl
 obtain⟨g1,g2,g3,g4,g5⟩:=zgh hs (iv.b rfl)
 obtain⟨f1,f2,f3,f4,f5⟩:=zgh hs (iv.a rfl)
 rw [z28 N (by omega) hs x (iv.a rfl) (iv.b rfl),ifp f1,ifp f2,f3,obs,obs,ifp g1,ifp g2,g3,obs,zzy N (by omega) f5 g5,obs,zpx,obs]
 rw [show zqr (z43 (zbj (rg s x.A) (zag (rg s x.A) (rg s x.B))) (zbj (rg s x.B) (zag (rg s x.A) (rg s x.B))))=zn1 s x.A x.B from rfl,z3m x.Mask]
 simp only [wn1]
 cases(zj .i64 (zn1 s x.A x.B) x.Mask !=0)with
 | true=>exact .inr ⟨_,_,_,rfl,rfl,rfl,fun _=>⟨rfl,by show 0≤x.Target;omega,by show x.Target≤_;omega⟩,hs,rfl,rfl,rfl⟩
 | false=>exact .inr ⟨_,_,_,rfl,rfl,rfl,fun _=>⟨rfl,by show 0≤s.At+1;omega,by show s.At+1≤_;omega⟩,hs,rfl,rfl,rfl⟩
theorem ex_8 (s:zC) {x:zB} (hop:x.Op=8):zai s x=(.ok (x.Target,s)):=by
 cases x;cases hop;rfl
theorem hx_8 (N:Nat) (M:zG) {x:zB} (hop:x.Op=8):zf N M x=some (x.Target,M):=by
 cases x;cases hop;rfl
theorem rx_8 (N:Nat) {x:zB} (hop:x.Op=8) (hi:idx c.zA s.At=some x):ze N c s=some (x.Target,0,s):=by
 unfold ze
 rw [hi,obs]
 clear hi
 cases x;cases hop;rfl
theorem zah1 (N:Nat) (hN:20000<N) (hc:CodeV m c) (hs:StV m c s) {x:zB} (hx:c.zA[s.At.toNat]?=some x) (hop:x.Op=8):zcr N m c s x:=by
 have iv:=zf1 hc (lmg hx) hop (U:=⟨false,false,false,false,false,false,false,false,false,true,false,false,false,false,0,0⟩) rfl
 have hi:idx c.zA s.At=some x:=by unfold idx;rw [ifp hs.at0,hx]
 have m8:=hc.m2
 have a0:=hs.at0
 have a1:=hs.at1
 have n240:=hc.len
 have wn1:w6 (s.At+1)=s.At+1:=w6e
 unfold zcr
 rw [ex_8 s hop,hx_8 N _ hop,rx_8 N hop hi]
 have ht:=iv.tg rfl
 exact .inr ⟨_,_,_,rfl,rfl,rfl,fun _=>⟨rfl,by omega,by omega⟩,hs,rfl,rfl,rfl⟩
theorem z5b (N:Nat) (hN:20000<N) (hc:CodeV m c) (hs:StV m c s) {p:zN} {t:DataType} (ht:zb3 t=0) (hk:t.Kind=0) (hp:zcn s.Storage p (szE t)=true) (b:ByteArray) (hb:b.size≤5000):
 (∃e,(e=4∨e=5)∧zfp s.Storage p (szE t)= .error e∧
  ((zin b t.Length).bind fun r4=>if 0≤t.Length∧t.Length≤(r4.size:Int)then(if 0≤(0:Int)∧(0:Int)≤t.Length then((zcx N ⟨s,c,0⟩ p (r4.extract (0:Int).toNat t.Length.toNat)).bind fun r5=>some r5)else none)else none)=some ⟨s,c,e⟩∧
  (((zbw N s p (szE t)).bind fun r12=>cond (r12.2 !=0) (some (r12.2,s)) ((zei N b (szE t)).bind fun r13=>(zbi N s.Storage r12.1 r13).bind fun r14=>some (0,updS s r14)))=some (e,s)))∨
 ∃a,zfp s.Storage p (szE t)= .ok a∧StV m c (updS s (wrV s.Storage a.toNat (zkc b t.Length.toNat)))∧
  ((zin b t.Length).bind fun r4=>if 0≤t.Length∧t.Length≤(r4.size:Int)then(if 0≤(0:Int)∧(0:Int)≤t.Length then((zcx N ⟨s,c,0⟩ p (r4.extract (0:Int).toNat t.Length.toNat)).bind fun r5=>some r5)else none)else none)=some ⟨updS s (wrV s.Storage a.toNat (zkc b t.Length.toNat)),c,0⟩∧
  (((zbw N s p (szE t)).bind fun r12=>cond (r12.2 !=0) (some (r12.2,s)) ((zei N b (szE t)).bind fun r13=>(zbi N s.Storage r12.1 r13).bind fun r14=>some (0,updS s r14)))=some (0,updS s (wrV s.Storage a.toNat (zkc b t.Length.toNat)))):=by
 have hsz:=zh3 ht
 have hle:szE t=t.Length:=by unfold szE;rw [ifn,ifn,ifn]
 have hL:t.Length=((t.Length.toNat:Nat):Int):=by omega
 have hpad:=zag3 b hb t.Length.toNat (by omega)
 rw [←hL]at hpad
 rw [hpad,obs]
 have hps:(⟨(bl b++List.replicate (t.Length.toNat-b.size) 32).toArray⟩:ByteArray).size=b.size+(t.Length.toNat-b.size):=by
  show(bl b++List.replicate (t.Length.toNat-b.size) 32).length=_;rw [lna,lnr,zc5]
 rw [ifp ⟨by omega,by rw [hps];omega⟩,ifp,show(0:Int).toNat=0 from rfl,zabd]
 have hrp:zei N b (szE t)=some (zkc b t.Length.toNat):=by
  have h:=zw6 N (by omega) b hb t.Length.toNat (by omega);rw [←hL]at h;rw [hle];exact h
 unfold zcx
 have hpz:((zkc b t.Length.toNat).size:Int)=szE t:=by rw [zxh];omega
 rw [hpz]
 rcases ztk N (by omega) s c hs.sto hp hsz.1 hsz.2 with⟨e,j,k,he,h1,h2,h3⟩|⟨a,h1,h2,h3,h4,h5⟩
 · left;rw [h1,h2,h3];refine⟨e,he,rfl,rfl,?_⟩;rcases he with rfl|rfl<;>rfl
 · right;rw [h1,h2,h3];obtain⟨a,rfl⟩:∃k:Nat,a=(k:Int):=⟨a.toNat,by omega⟩;have hw:a+(zkc b t.Length.toNat).size≤s.Storage.Bytes.size:=by omega
   have hw0:0<(zkc b t.Length.toNat).size:=by omega
   refine⟨_,rfl,hs.updS (z32 hs.sto hw hw0) (zu4 hw),?_,?_⟩
   · simp only [obs,ctr];rw [z37 N (by omega) hs.sto hw hw0];rfl
   · simp only [obs,bsf,cfa];rw [hrp];simp only [obs];rw [zzs N (by omega) hs.sto hw hw0];rfl
theorem ex_9 (s:zC) {x:zB} (hop:x.Op=9):zai s x=(match ziu s.Storage x.From x.Second with
 | .error e=> .error e
 | .ok b=>match zfp s.Storage x.Place (szE x.zF)with| .error e=> .error e| .ok a=> .ok (s.At+1,updS s (wrV s.Storage a.toNat (zkc b x.zF.Length.toNat)))):=by
 cases x;cases hop;rfl
theorem hx_9 (N:Nat) (M:zG) {x:zB} (hop:x.Op=9):zf N M x=((zba N M x.From x.Second).bind fun r1=>cond r1.2.1 ((zin r1.1 x.zF.Length).bind fun r4=>if 0≤x.zF.Length∧x.zF.Length≤(r4.size:Int)then(if 0≤(0:Int)∧(0:Int)≤x.zF.Length then((zcx N r1.2.2 x.Place (r4.extract (0:Int).toNat x.zF.Length.toNat)).bind fun r5=>some r5)else none)else none) (some r1.2.2)).bind fun r=>some (w6 (r.zC.At+1),r):=by
 cases x;cases hop;rfl
theorem rx_9 (N:Nat) {x:zB} (hop:x.Op=9) (hi:idx c.zA s.At=some x):ze N c s=((zaw x.zF).bind fun r1=>(zdh N s x.From x.Second).bind fun r8=>cond (r8.2 !=0) (some (r8.2,s)) ((zbw N s x.Place r1).bind fun r12=>cond (r12.2 !=0) (some (r12.2,s)) ((zei N r8.1 r1).bind fun r13=>(zbi N s.Storage r12.1 r13).bind fun r14=>some (0,updS s r14)))).bind fun r=>some (w6 (s.At+1),r.1,r.2):=by
 unfold ze
 rw [hi,obs]
 clear hi
 cases x;cases hop;rfl
theorem zah0 (N:Nat) (hN:20000<N) (hc:CodeV m c) (hs:StV m c s) {x:zB} (hx:c.zA[s.At.toNat]?=some x) (hop:x.Op=9):zcr N m c s x:=by
 have iv:=zf1 hc (lmg hx) hop (U:=⟨false,false,false,true,true,false,false,false,false,false,false,false,false,false,2,2⟩) rfl
 have hi:idx c.zA s.At=some x:=by unfold idx;rw [ifp hs.at0,hx]
 have m8:=hc.m2
 have a0:=hs.at0
 have a1:=hs.at1
 have n240:=hc.len
 have wn1:w6 (s.At+1)=s.At+1:=w6e
 unfold zcr
 rw [ex_9 s hop,hx_9 N _ hop,rx_9 N hop hi]
 have hp:zcn s.Storage x.Place (szE x.zF)=true:=by rw [ze5 hs.size];have:=iv.pl rfl;unfold zdp at this;rw [ifn]at this;exact this
 have hf:zcn s.Storage x.From (szE x.Second)=true:=by rw [ze5 hs.size];exact iv.fr rfl
 rw [zjk (iv.ty2 rfl).1,obs]
 have hz2:=zh3 (iv.se2 rfl).1
 rcases zor N (by omega) s c hs.sto (iv.se2 rfl).1 hf with⟨e,b,k,he,h1,h2,h3⟩|⟨b,h1,h2,h3,h4⟩
 · rw [h1,h2,h3];refine .inl ⟨e,_,w6 (s.At+1),s,rfl,by omega,rfl,?_⟩;rcases he with rfl|rfl<;>rfl
 · rw [h1,h2,h3];simp only [obs,ctr,bsf,cfa];rcases z5b N hN hc hs (iv.ty2 rfl).1 (iv.ty2 rfl).2 hp b (by omega)with⟨e,he,k1,k2,k3⟩|⟨a,k1,k4,k2,k3⟩
   · rw [k1,k2,k3];exact .inl ⟨e,_,w6 (s.At+1),s,rfl,by omega,rfl,rfl⟩
   · rw [k1,k2,k3];refine .inr ⟨_,_,_,rfl,?_,?_,fun _=>⟨rfl,by omega,by omega⟩,k4,rfl,rfl,rfl⟩
     · show some (w6 (s.At+1),_)=_;rw [wn1]
     · show some (w6 (s.At+1),_)=_;rw [wn1]
theorem zakg (s:zC) {x:zB} (hop:x.Op=10):zai s x=(match zfp s.Storage x.Place (szE x.zF)with| .error e=> .error e| .ok a=> .ok (s.At+1,updS s (wrV s.Storage a.toNat (zkc x.Text x.zF.Length.toNat)))):=by
 cases x;cases hop;rfl
theorem zajx (N:Nat) (M:zG) {x:zB} (hop:x.Op=10):zf N M x=((zin x.Text x.zF.Length).bind fun r4=>if 0≤x.zF.Length∧x.zF.Length≤(r4.size:Int)then(if 0≤(0:Int)∧(0:Int)≤x.zF.Length then((zcx N M x.Place (r4.extract (0:Int).toNat x.zF.Length.toNat)).bind fun r5=>some r5)else none)else none).bind fun r=>some (w6 (r.zC.At+1),r):=by
 cases x;cases hop;rfl
theorem zai0 (N:Nat) {x:zB} (hop:x.Op=10) (hi:idx c.zA s.At=some x):ze N c s=((zaw x.zF).bind fun r1=>(zbw N s x.Place r1).bind fun r12=>cond (r12.2 !=0) (some (r12.2,s)) ((zei N x.Text r1).bind fun r13=>(zbi N s.Storage r12.1 r13).bind fun r14=>some (0,updS s r14))).bind fun r=>some (w6 (s.At+1),r.1,r.2):=by
 unfold ze
 rw [hi,obs]
 clear hi
 cases x;cases hop;rfl
theorem zaf4 (N:Nat) (hN:20000<N) (hc:CodeV m c) (hs:StV m c s) {x:zB} (hx:c.zA[s.At.toNat]?=some x) (hop:x.Op=10):zcr N m c s x:=by
 have iv:=zf1 hc (lmg hx) hop (U:=⟨false,false,false,true,false,false,false,false,false,false,true,false,false,false,2,0⟩) rfl
 have hi:idx c.zA s.At=some x:=by unfold idx;rw [ifp hs.at0,hx]
 have m8:=hc.m2
 have a0:=hs.at0
 have a1:=hs.at1
 have n240:=hc.len
 have wn1:w6 (s.At+1)=s.At+1:=w6e
 unfold zcr
 rw [zakg s hop,zajx N _ hop,zai0 N hop hi]
 have hp:zcn s.Storage x.Place (szE x.zF)=true:=by rw [ze5 hs.size];have:=iv.pl rfl;unfold zdp at this;rw [ifn]at this;exact this
 have htx:=iv.tx
 rw [zjk (iv.ty2 rfl).1,obs]
 rcases z5b N hN hc hs (iv.ty2 rfl).1 (iv.ty2 rfl).2 hp x.Text (by omega)with⟨e,he,k1,k2,k3⟩|⟨a,k1,k4,k2,k3⟩
 · rw [k1,k2,k3];exact .inl ⟨e,_,w6 (s.At+1),s,rfl,by omega,rfl,rfl⟩
 · rw [k1,k2,k3];refine .inr ⟨_,_,_,rfl,?_,?_,fun _=>⟨rfl,by omega,by omega⟩,k4,rfl,rfl,rfl⟩
   · show some (w6 (s.At+1),_)=_;rw [wn1]
   · show some (w6 (s.At+1),_)=_;rw [wn1]
theorem zakf (s:zC) {x:zB} (hop:x.Op=11):zai s x=(match ziu s.Storage x.Place x.zF with
 | .error e=> .error e
 | .ok a=>match ziu s.Storage x.From x.Second with| .error e=> .error e| .ok b=> .ok (s.At+1,updC s (zl5 a b))):=by
 cases x;cases hop;rfl
theorem zajw (N:Nat) (M:zG) {x:zB} (hop:x.Op=11):zf N M x=((zba N M x.Place x.zF).bind fun r1=>(cond r1.2.1 (some true) (some false)).bind fun g2=>cond g2 ((zba N r1.2.2 x.From x.Second).bind fun r3=>cond r3.2.1 ((zgd r1.1 r3.1).bind fun r4=>some (⟨updC r3.2.2.zC r4,r3.2.2.code,r3.2.2.raised⟩:zG)) (some r3.2.2)) (cond r1.2.1 ((zgd r1.1 x.Text).bind fun r5=>some (⟨updC r1.2.2.zC r5,r1.2.2.code,r1.2.2.raised⟩:zG)) (some r1.2.2))).bind fun r=>some (w6 (r.zC.At+1),r):=by
 cases x;cases hop;rfl
theorem zaiz (N:Nat) {x:zB} (hop:x.Op=11) (hi:idx c.zA s.At=some x):ze N c s=((zaw x.zF).bind fun r1=>(zdh N s x.Place x.zF).bind fun r5=>cond (r5.2 !=0) (some (r5.2,s)) ((zdh N s x.From x.Second).bind fun r6=>cond (r6.2 !=0) (some (r6.2,s)) ((zf5 N r5.1 r6.1).bind fun r7=>some (0,updC s r7)))).bind fun r=>some (w6 (s.At+1),r.1,r.2):=by
 unfold ze
 rw [hi,obs]
 clear hi
 cases x;cases hop;rfl
theorem zaf3 (N:Nat) (hN:20000<N) (hc:CodeV m c) (hs:StV m c s) {x:zB} (hx:c.zA[s.At.toNat]?=some x) (hop:x.Op=11):zcr N m c s x:=by
 have iv:=zf1 hc (lmg hx) hop (U:=⟨false,false,false,true,true,false,false,false,false,false,false,false,false,false,2,2⟩) rfl
 have hi:idx c.zA s.At=some x:=by unfold idx;rw [ifp hs.at0,hx]
 have m8:=hc.m2
 have a0:=hs.at0
 have a1:=hs.at1
 have n240:=hc.len
 have wn1:w6 (s.At+1)=s.At+1:=w6e
 unfold zcr
 rw [zakf s hop,zajw N _ hop,zaiz N hop hi]
 have hp:zcn s.Storage x.Place (szE x.zF)=true:=by rw [ze5 hs.size];have:=iv.pl rfl;unfold zdp at this;rw [ifn]at this;exact this
 have hf:zcn s.Storage x.From (szE x.Second)=true:=by rw [ze5 hs.size];exact iv.fr rfl
 rw [zjk (iv.ty2 rfl).1,obs]
 have hz1:=zh3 (iv.ty2 rfl).1
 have hz2:=zh3 (iv.se2 rfl).1
 rcases zor N (by omega) s c hs.sto (iv.ty2 rfl).1 hp with⟨e,b,k,he,h1,h2,h3⟩|⟨b,h1,h2,h3,h4⟩
 · rw [h1,h2,h3];refine .inl ⟨e,_,w6 (s.At+1),s,rfl,by omega,rfl,?_⟩;rcases he with rfl|rfl<;>rfl
 · rw [h1,h2,h3];simp only [obs,ctr,bsf,cfa];rcases zor N (by omega) s c hs.sto (iv.se2 rfl).1 hf with⟨e,d,k,he,k1,k2,k3⟩|⟨d,k1,k2,k3,k4⟩
   · rw [k1,k2,k3];refine .inl ⟨e,_,w6 (s.At+1),s,rfl,by omega,rfl,?_⟩;rcases he with rfl|rfl<;>rfl
   · rw [k1,k2,k3];refine .inr ⟨_,_,_,rfl,?_,?_,fun _=>⟨rfl,by omega,by omega⟩,hs.updC (zqq _),rfl,rfl,rfl⟩
     · simp only [obs,ctr];rw [z0d b d (by omega) (by omega)];show some (w6 (s.At+1),_)=_;rw [wn1]
     · simp only [obs,bsf,cfa];rw [zve N (by omega) b d (by omega) (by omega)];show some (w6 (s.At+1),_)=_;rw [wn1]
theorem zake (s:zC) {x:zB} (hop:x.Op=12):zai s x=(match ziu s.Storage x.Place x.zF with| .error e=> .error e| .ok a=> .ok (s.At+1,updC s (zl5 a x.Text))):=by
 cases x;cases hop;rfl
theorem zajv (N:Nat) (M:zG) {x:zB} (hop:x.Op=12):zf N M x=((zba N M x.Place x.zF).bind fun r1=>(cond r1.2.1 (some false) (some false)).bind fun g2=>cond g2 ((zba N r1.2.2 x.From x.Second).bind fun r3=>cond r3.2.1 ((zgd r1.1 r3.1).bind fun r4=>some (⟨updC r3.2.2.zC r4,r3.2.2.code,r3.2.2.raised⟩:zG)) (some r3.2.2)) (cond r1.2.1 ((zgd r1.1 x.Text).bind fun r5=>some (⟨updC r1.2.2.zC r5,r1.2.2.code,r1.2.2.raised⟩:zG)) (some r1.2.2))).bind fun r=>some (w6 (r.zC.At+1),r):=by
 cases x;cases hop;rfl
theorem zaiy (N:Nat) {x:zB} (hop:x.Op=12) (hi:idx c.zA s.At=some x):ze N c s=((zaw x.zF).bind fun r1=>(zdh N s x.Place x.zF).bind fun r5=>cond (r5.2 !=0) (some (r5.2,s)) ((zf5 N r5.1 x.Text).bind fun r7=>some (0,updC s r7))).bind fun r=>some (w6 (s.At+1),r.1,r.2):=by
 unfold ze
 rw [hi,obs]
 clear hi
 cases x;cases hop;rfl
theorem zaf2 (N:Nat) (hN:20000<N) (hc:CodeV m c) (hs:StV m c s) {x:zB} (hx:c.zA[s.At.toNat]?=some x) (hop:x.Op=12):zcr N m c s x:=by
 have iv:=zf1 hc (lmg hx) hop (U:=⟨false,false,false,true,false,false,false,false,false,false,true,false,false,false,2,0⟩) rfl
 have hi:idx c.zA s.At=some x:=by unfold idx;rw [ifp hs.at0,hx]
 have m8:=hc.m2
 have a0:=hs.at0
 have a1:=hs.at1
 have n240:=hc.len
 have wn1:w6 (s.At+1)=s.At+1:=w6e
 unfold zcr
 rw [zake s hop,zajv N _ hop,zaiy N hop hi]
 have hp:zcn s.Storage x.Place (szE x.zF)=true:=by rw [ze5 hs.size];have:=iv.pl rfl;unfold zdp at this;rw [ifn]at this;exact this
 rw [zjk (iv.ty2 rfl).1,obs]
 have hz1:=zh3 (iv.ty2 rfl).1
 have htx:=iv.tx
 rcases zor N (by omega) s c hs.sto (iv.ty2 rfl).1 hp with⟨e,b,k,he,h1,h2,h3⟩|⟨b,h1,h2,h3,h4⟩
 · rw [h1,h2,h3];refine .inl ⟨e,_,w6 (s.At+1),s,rfl,by omega,rfl,?_⟩;rcases he with rfl|rfl<;>rfl
 · rw [h1,h2,h3];refine .inr ⟨_,_,_,rfl,?_,?_,fun _=>⟨rfl,by omega,by omega⟩,hs.updC (zqq _),rfl,rfl,rfl⟩
   · simp only [obs,ctr,cfa];rw [z0d b x.Text (by omega) (by omega)];show some (w6 (s.At+1),_)=_;rw [wn1]
   · simp only [obs,bsf,cfa];rw [zve N (by omega) b x.Text (by omega) (by omega)];show some (w6 (s.At+1),_)=_;rw [wn1]
theorem zakd (s:zC) {x:zB} (hop:x.Op=13):zai s x=(.ok (s.At+1,updC s (zl5 x.Text x.Other))):=by
 cases x;cases hop;rfl
theorem zaju (N:Nat) (M:zG) {x:zB} (hop:x.Op=13):zf N M x=(zgd x.Text x.Other).bind fun r=>some (w6 (M.zC.At+1),⟨updC M.zC r,M.code,M.raised⟩):=by
 cases x;cases hop;rfl
theorem zaix (N:Nat) {x:zB} (hop:x.Op=13) (hi:idx c.zA s.At=some x):ze N c s=((zaw x.zF).bind fun r1=>(zf5 N x.Text x.Other).bind fun r2=>some (0,updC s r2)).bind fun r=>some (w6 (s.At+1),r.1,r.2):=by
 unfold ze
 rw [hi,obs]
 clear hi
 cases x;cases hop;rfl
theorem zaf1 (N:Nat) (hN:20000<N) (hc:CodeV m c) (hs:StV m c s) {x:zB} (hx:c.zA[s.At.toNat]?=some x) (hop:x.Op=13):zcr N m c s x:=by
 have iv:=zf1 hc (lmg hx) hop (U:=⟨false,false,false,false,false,false,false,false,false,false,true,true,false,false,0,0⟩) rfl
 have hi:idx c.zA s.At=some x:=by unfold idx;rw [ifp hs.at0,hx]
 have m8:=hc.m2
 have a0:=hs.at0
 have a1:=hs.at1
 have n240:=hc.len
 have wn1:w6 (s.At+1)=s.At+1:=w6e
 unfold zcr
 rw [zakd s hop,zaju N _ hop,zaix N hop hi]
 have htx:=iv.tx
 have hot:=iv.ot
 have hsz:∃k,zaw x.zF=some k:=by
  unfold zaw;rw [zh4];cases(x.zF.Kind==1)<;>cases(x.zF.Kind==3)<;>cases(x.zF.Kind==4)<;>exact⟨_,rfl⟩
 obtain⟨k,hk⟩:=hsz
 rw [hk,obs,z0d _ _ (by omega) (by omega),zve N (by omega) _ _ (by omega) (by omega)]
 refine .inr ⟨_,_,_,rfl,?_,?_,fun _=>⟨rfl,by omega,by omega⟩,hs.updC (zqq _),rfl,rfl,rfl⟩
 · show some (w6 (s.At+1),_)=_;rw [wn1]
 · show some (w6 (s.At+1),_)=_;rw [wn1]
end
section
variable {m:zJ} {c:zH} {s:zC}
theorem zakc (s:zC) {x:zB} (hop:x.Op=14):zai s x=(match zfp s.Storage x.Place (szE x.zF)with| .error e=> .error e| .ok a=> .ok (s.At+1,updS s (stV s.Storage x.Pointer.toNat a.toNat))):=by
 cases x;cases hop;rfl
theorem zajt (N:Nat) (M:zG) {x:zB} (hop:x.Op=14):zf N M x=((zg4 N x.zF).bind fun r1=>(zdy N M x.Place r1).bind fun r2=>cond r2.2.1 ((zff N r2.2.2.zC.Storage x.Pointer (⟨0,(⟨1,r2.1⟩:Address),0⟩:Pointer)).bind fun r3=>some (⟨updS r2.2.2.zC r3.1,r2.2.2.code,r2.2.2.raised⟩:zG)) (some r2.2.2)).bind fun r=>some (w6 (r.zC.At+1),r):=by
 cases x;cases hop;rfl
theorem zaiw (N:Nat) {x:zB} (hop:x.Op=14) (hi:idx c.zA s.At=some x):ze N c s=((zaw x.zF).bind fun r1=>(zbw N s x.Place r1).bind fun r2=>cond (r2.2 !=0) (some (r2.2,s)) ((zeu N s.Storage x.Pointer (⟨0,(⟨1,r2.1⟩:Address),0⟩:Pointer)).bind fun r3=>some (0,updS s r3))).bind fun r=>some (w6 (s.At+1),r.1,r.2):=by
 unfold ze
 rw [hi,obs]
 clear hi
 cases x;cases hop;rfl
theorem zaf0 (N:Nat) (hN:20000<N) (hc:CodeV m c) (hs:StV m c s) {x:zB} (hx:c.zA[s.At.toNat]?=some x) (hop:x.Op=14):zcr N m c s x:=by
 have iv:=zf1 hc (lmg hx) hop (U:=⟨false,false,false,true,false,false,false,false,false,false,false,false,true,false,3,0⟩) rfl
 have hi:idx c.zA s.At=some x:=by unfold idx;rw [ifp hs.at0,hx]
 have m8:=hc.m2
 have a0:=hs.at0
 have a1:=hs.at1
 have n240:=hc.len
 have wn1:w6 (s.At+1)=s.At+1:=w6e
 unfold zcr
 rw [zakc s hop,zajt N _ hop,zaiw N hop hi]
 have ht:=iv.ty3 rfl
 have hp:zcn s.Storage x.Place (szE x.zF)=true:=by rw [ze5 hs.size];have:=iv.pl rfl;unfold zdp at this;rw [ifn]at this;exact this
 have hq:zev s.Storage x.Pointer=true:=by rw [zos hs.size];exact iv.pt rfl
 obtain⟨q1,q2,q3⟩:=zmh hq
 have hsz:=zh3 ht
 have hle:=hs.sto.le
 have hqd:=hs.sto.quad
 rw [z2j N (by omega) ht,zjk ht,obs,obs]
 rcases ztk N (by omega) s c hs.sto hp hsz.1 hsz.2 with⟨e,j,k,he,h1,h2,h3⟩|⟨a,h1,h2,h3,h4,h5⟩
 · rw [h1,h2,h3];refine .inl ⟨e,_,w6 (s.At+1),s,rfl,by omega,rfl,?_⟩;rcases he with rfl|rfl<;>rfl
 · rw [h1,h2,h3];obtain⟨a,rfl⟩:∃k:Nat,a=(k:Int):=⟨a.toNat,by omega⟩;refine .inr ⟨_,_,_,rfl,?_,?_,fun _=>⟨rfl,by omega,by omega⟩,hs.updS (z4d (off:=a) hs.sto (by omega) (by omega) (by omega)) (zzj (by omega)),rfl,rfl,rfl⟩
   · simp only [obs,ctr];rw [show(⟨0,⟨1,(a:Int)⟩,0⟩:Pointer)=zky a from rfl,zzg N (by omega) hs.sto hq a (by omega)];show some (w6 (s.At+1),_)=_;rw [wn1];rfl
   · simp only [obs,bsf,cfa];rw [show(⟨0,⟨1,(a:Int)⟩,0⟩:Pointer)=zky a from rfl,zvf N (by omega) hs.sto hq a (by omega)];show some (w6 (s.At+1),_)=_;rw [wn1];rfl
theorem zakb (s:zC) {x:zB} (hop:x.Op=15):zai s x=(match ldV s.Storage x.Source with|none=> .error 4|some o=> .ok (s.At+1,updS s (stV s.Storage x.Pointer.toNat o.toNat))):=by
 cases x;cases hop;rfl
theorem zajs (N:Nat) (M:zG) {x:zB} (hop:x.Op=15):zf N M x=((zc2 N M x.Source).bind fun r4=>cond r4.2.1 ((zff N r4.2.2.zC.Storage x.Pointer r4.1).bind fun r5=>some (⟨updS r4.2.2.zC r5.1,r4.2.2.code,r4.2.2.raised⟩:zG)) (some r4.2.2)).bind fun r=>some (w6 (r.zC.At+1),r):=by
 cases x;cases hop;rfl
theorem zaiv (N:Nat) {x:zB} (hop:x.Op=15) (hi:idx c.zA s.At=some x):ze N c s=((zf8 N s.Storage x.Source).bind fun r4=>cond (r4.2 !=0) (some (4,s)) ((zeu N s.Storage x.Pointer r4.1).bind fun r5=>some (0,updS s r5))).bind fun r=>some (w6 (s.At+1),r.1,r.2):=by
 unfold ze
 rw [hi,obs]
 clear hi
 cases x;cases hop;rfl
theorem zafz (N:Nat) (hN:20000<N) (hc:CodeV m c) (hs:StV m c s) {x:zB} (hx:c.zA[s.At.toNat]?=some x) (hop:x.Op=15):zcr N m c s x:=by
 have iv:=zf1 hc (lmg hx) hop (U:=⟨false,false,false,false,false,false,false,false,false,false,false,false,true,true,0,0⟩) rfl
 have hi:idx c.zA s.At=some x:=by unfold idx;rw [ifp hs.at0,hx]
 have m8:=hc.m2
 have a0:=hs.at0
 have a1:=hs.at1
 have n240:=hc.len
 have wn1:w6 (s.At+1)=s.At+1:=w6e
 unfold zcr
 rw [zakb s hop,zajs N _ hop,zaiv N hop hi]
 have hq:zev s.Storage x.Pointer=true:=by rw [zos hs.size];exact iv.pt rfl
 have hq2:zev s.Storage x.Source=true:=by rw [zos hs.size];exact iv.sr rfl
 obtain⟨q1,q2,q3⟩:=zmh hq
 have hle:=hs.sto.le
 have hqd:=hs.sto.quad
 rw [zrp N (by omega) s c hs.sto hq2,zuc N (by omega) hs.sto hq2]
 cases hld:ldV s.Storage x.Source with
 | none=>exact .inl ⟨4,_,_,s,rfl,by omega,rfl,rfl⟩
 | some o=>
  have ho:=zs6 hs.sto hld;obtain⟨o,rfl⟩:∃k:Nat,o=(k:Int):=⟨o.toNat,by omega⟩;refine .inr ⟨_,_,_,rfl,?_,?_,fun _=>⟨rfl,by omega,by omega⟩,hs.updS (z4d (off:=o) hs.sto (by omega) (by omega) (by omega)) (zzj (by omega)),rfl,rfl,rfl⟩
  · simp only [obs,ctr];rw [zzg N (by omega) hs.sto hq o (by omega)];show some (w6 (s.At+1),_)=_;rw [wn1];rfl
  · simp only [obs,bsf,cfa];rw [zvf N (by omega) hs.sto hq o (by omega)];show some (w6 (s.At+1),_)=_;rw [wn1];rfl
theorem zaka (s:zC) {x:zB} (hop:x.Op=16):zai s x=(match ldV s.Storage x.Pointer with
 | none=> .error 4
 | some o=>if inB (o+zfq (rg s x.R)) 0 16777215=true then .ok (s.At+1,updS s (stV s.Storage x.Pointer.toNat (o+zfq (rg s x.R)).toNat))else .error 5):=by
 cases x;cases hop;rfl
theorem zajr (N:Nat) (M:zG) {x:zB} (hop:x.Op=16):zf N M x=((zj2 N M x).bind fun r6=>some r6).bind fun r=>some (w6 (r.zC.At+1),r):=by
 cases x;cases hop;rfl
theorem zaiu (N:Nat) {x:zB} (hop:x.Op=16) (hi:idx c.zA s.At=some x):ze N c s=((zf8 N s.Storage x.Pointer).bind fun r10=>cond (r10.2 !=0) (some (4,s)) (if 0≤x.R then(if x.R<(s.Registers.length:Int)then((s.Registers[x.R.toNat]?).bind fun x12=>(zf4 N x12).bind fun r13=>(zg (w6 (r10.1.Address.Offset+r13)) 0 16777215).bind fun r14=>cond (!r14) (some (5,s)) ((zeu N s.Storage x.Pointer (⟨r10.1.Kind,(⟨r10.1.Address.yF,(w6 (r10.1.Address.Offset+r13))⟩:Address),r10.1.Authority⟩:Pointer)).bind fun r15=>some (0,updS s r15)))else none)else none)).bind fun r=>some (w6 (s.At+1),r.1,r.2):=by
 unfold ze
 rw [hi,obs]
 clear hi
 cases x;cases hop;rfl
theorem zafy (N:Nat) (hN:20000<N) (hc:CodeV m c) (hs:StV m c s) {x:zB} (hx:c.zA[s.At.toNat]?=some x) (hop:x.Op=16):zcr N m c s x:=by
 have iv:=zf1 hc (lmg hx) hop (U:=⟨true,false,false,false,false,false,false,false,false,false,false,false,true,false,0,0⟩) rfl
 have hi:idx c.zA s.At=some x:=by unfold idx;rw [ifp hs.at0,hx]
 have m8:=hc.m2
 have a0:=hs.at0
 have a1:=hs.at1
 have n240:=hc.len
 have wn1:w6 (s.At+1)=s.At+1:=w6e
 unfold zcr
 rw [zaka s hop,zajr N _ hop,zaiu N hop hi]
 have hq:zev s.Storage x.Pointer=true:=by rw [zos hs.size];exact iv.pt rfl
 obtain⟨q1,q2,q3⟩:=zmh hq
 obtain⟨g1,g2,g3,g4,g5⟩:=zgh hs (iv.r rfl)
 have hle:=hs.sto.le
 have hqd:=hs.sto.quad
 unfold zj2
 rw [zrp N (by omega) s c hs.sto hq,zuc N (by omega) hs.sto hq]
 cases hld:ldV s.Storage x.Pointer with
 | none=>exact .inl ⟨4,_,_,s,rfl,by omega,rfl,rfl⟩
 | some o=>
  have ho:=zs6 hs.sto hld;have hwb:=zws g5;simp only [obs,bnt,cfa,bsf];rw [g4,ifp g1,ifp g2,g3];simp only [obs];rw [z5l N (by omega) g5,zvd N (by omega) g5];simp only [obs];rw [show(zky o).Address.Offset=o from rfl,w6e (n:=o+zfq (rg s x.R)),zpf,zg2];simp only [obs];rw [zim _ _ _ _ (by decide)];simp only [obs];cases hin:inB (o+zfq (rg s x.R)) 0 16777215 with
  | false=>
   rw [ifn (by decide)];exact .inl ⟨5,_,_,s,rfl,by omega,rfl,rfl⟩
  | true=>
   have hr:=zaq.1 hin;rw [ifp rfl];obtain⟨k,hk⟩:∃k:Nat,o+zfq (rg s x.R)=(k:Int):=⟨(o+zfq (rg s x.R)).toNat,by omega⟩;rw [hk];rw [show(⟨(zky o).Kind,⟨(zky o).Address.yF,(k:Int)⟩,(zky o).Authority⟩:Pointer)=zky k from rfl];refine .inr ⟨_,_,_,rfl,?_,?_,fun _=>⟨rfl,by omega,by omega⟩,hs.updS (z4d (off:=k) hs.sto (by omega) (by omega) (by omega)) (zzj (by omega)),rfl,rfl,rfl⟩
   · simp only [bnt,Bool.not_false,ctr];rw [zzg N (by omega) hs.sto hq k (by omega)];show some (w6 (s.At+1),_)=_;rw [wn1];rfl
   · simp only [bnt,cfa];rw [zvf N (by omega) hs.sto hq k (by omega)];show some (w6 (s.At+1),_)=_;rw [wn1];rfl
theorem zaj9 (s:zC) {x:zB} (hop:x.Op=17):zai s x=(match ldV s.Storage x.Pointer with|none=> .error 4|some _=> .ok (s.At+1,s)):=by
 cases x;cases hop;rfl
theorem zajq (N:Nat) (M:zG) {x:zB} (hop:x.Op=17):zf N M x=((zc2 N M x.Pointer).bind fun r7=>some r7.2.2).bind fun r=>some (w6 (r.zC.At+1),r):=by
 cases x;cases hop;rfl
theorem zait (N:Nat) {x:zB} (hop:x.Op=17) (hi:idx c.zA s.At=some x):ze N c s=((zf8 N s.Storage x.Pointer).bind fun r10=>cond (r10.2 !=0) (some (4,s)) (some (0,s))).bind fun r=>some (w6 (s.At+1),r.1,r.2):=by
 unfold ze
 rw [hi,obs]
 clear hi
 cases x;cases hop;rfl
theorem zafx (N:Nat) (hN:20000<N) (hc:CodeV m c) (hs:StV m c s) {x:zB} (hx:c.zA[s.At.toNat]?=some x) (hop:x.Op=17):zcr N m c s x:=by
 have iv:=zf1 hc (lmg hx) hop (U:=⟨false,false,false,false,false,false,false,false,false,false,false,false,true,false,0,0⟩) rfl
 have hi:idx c.zA s.At=some x:=by unfold idx;rw [ifp hs.at0,hx]
 have m8:=hc.m2
 have a0:=hs.at0
 have a1:=hs.at1
 have n240:=hc.len
 have wn1:w6 (s.At+1)=s.At+1:=w6e
 unfold zcr
 rw [zaj9 s hop,zajq N _ hop,zait N hop hi]
 have hq:zev s.Storage x.Pointer=true:=by rw [zos hs.size];exact iv.pt rfl
 rw [zrp N (by omega) s c hs.sto hq,zuc N (by omega) hs.sto hq]
 cases hld:ldV s.Storage x.Pointer with
 | none=>exact .inl ⟨4,_,_,s,rfl,by omega,rfl,rfl⟩
 | some o=>
  refine .inr ⟨_,_,_,rfl,?_,?_,fun _=>⟨rfl,by omega,by omega⟩,hs,rfl,rfl,rfl⟩
  · show some (w6 (s.At+1),_)=_;rw [wn1]
  · show some (w6 (s.At+1),_)=_;rw [wn1]
theorem zaj8 (s:zC) {x:zB} (hop:x.Op=18):zai s x=(if 6≤s.Stack.length then .error 6 else .ok (x.Target,updK s (s.Stack++[s.At]))):=by
 cases x;cases hop;rfl
theorem zajp (N:Nat) (M:zG) {x:zB} (hop:x.Op=18):zf N M x=((zlf M x.Target).bind fun r1=>some (r1.1,r1.2)).bind fun r=>some (r.1,r.2):=by
 cases x;cases hop;rfl
theorem zais (N:Nat) {x:zB} (hop:x.Op=18) (hi:idx c.zA s.At=some x):ze N c s=cond ((s.Stack.length:Int)==6) (some (0,6,s)) (cond (Nat.ble ((s.Stack.length+([s.At]:List Int).length)*8) zr) (some (x.Target,0,updK s (s.Stack++[s.At]))) none):=by
 unfold ze
 rw [hi,obs]
 clear hi
 cases x;cases hop;rfl
theorem zafw (N:Nat) (hN:20000<N) (hc:CodeV m c) (hs:StV m c s) {x:zB} (hx:c.zA[s.At.toNat]?=some x) (hop:x.Op=18):zcr N m c s x:=by
 have iv:=zf1 hc (lmg hx) hop (U:=⟨false,false,false,false,false,false,false,false,false,true,false,false,false,false,0,0⟩) rfl
 have hi:idx c.zA s.At=some x:=by unfold idx;rw [ifp hs.at0,hx]
 have m8:=hc.m2
 have a0:=hs.at0
 have a1:=hs.at1
 have n240:=hc.len
 have wn1:w6 (s.At+1)=s.At+1:=w6e
 unfold zcr
 rw [zaj8 s hop,zajp N _ hop,zais N hop hi]
 have ht:=iv.tg rfl
 have h6:=hs.stk
 unfold zlf
 simp only []
 rw [zim _ _ _ _ (by decide)]
 simp only [obs,zbc]
 by_cases h:6≤s.Stack.length
 · rw [ifp h,dct (show(s.Stack.length:Int)≥6 by omega),dct (show(s.Stack.length:Int)=6 by omega)];exact .inl ⟨6,_,_,s,rfl,by omega,rfl,rfl⟩
 · rw [ifn h,dcf (show ¬(s.Stack.length:Int)≥6 by omega),dcf (show ¬(s.Stack.length:Int)=6 by omega)];have hcl:zdk 8 s.Stack=some s.Stack:=by unfold zdk;rw [zbe (by omega)];rfl
   have hrm:Nat.ble ((s.Stack.length+([s.At]:List Int).length)*8) zr=true:=zbe (by simp only [lnc,ln0];omega);simp only [Bool.not_false,ctr,cfa];rw [hcl];simp only [obs];rw [hrm];refine .inr ⟨_,_,_,rfl,rfl,rfl,fun _=>⟨rfl,by omega,by omega⟩,hs.updK ?_ ?_,rfl,rfl,rfl⟩
   · rw [lna,lns];omega
   · intro i hmem;rcases List.mem_append.1 hmem with h2|h2
     · exact hs.calls i h2
     · rw [List.mem_singleton.1 h2];exact⟨⟨a0,a1⟩,x,hx,hop⟩
theorem zaj7 (s:zC) {x:zB} (hop:x.Op=19):zai s x=(if s.Stack.length=0 then .ok (s.At,updT s 1)else .ok (s.Stack.getD (s.Stack.length-1) 0+1,updK s (s.Stack.take (s.Stack.length-1)))):=by
 cases x;cases hop;rfl
theorem zajo (N:Nat) (M:zG) {x:zB} (hop:x.Op=19):zf N M x=((zlg M).bind fun r2=>some (r2.1,r2.2)).bind fun r=>some (r.1,r.2):=by
 cases x;cases hop;rfl
theorem zair (N:Nat) {x:zB} (hop:x.Op=19) (hi:idx c.zA s.At=some x):ze N c s=cond ((s.Stack.length:Int)==0) (some ((w6 (s.At+1)),0,updT s 1)) (if 0≤(w6 ((s.Stack.length:Int)-1))then(if(w6 ((s.Stack.length:Int)-1))<(s.Stack.length:Int)then((s.Stack[(w6 ((s.Stack.length:Int)-1)).toNat]?).bind fun x6=>if 0≤(w6 ((s.Stack.length:Int)-1))∧(w6 ((s.Stack.length:Int)-1))≤(s.Stack.length:Int)then(if 0≤(0:Int)∧(0:Int)≤(w6 ((s.Stack.length:Int)-1))then(some ((w6 (x6+1)),0,updK s ((s.Stack.drop ((0:Int).toNat)).take ((w6 ((s.Stack.length:Int)-1)).toNat-(0:Int).toNat))))else none)else none)else none)else none):=by
 unfold ze
 rw [hi,obs]
 clear hi
 cases x;cases hop;rfl
theorem zafv (N:Nat) (hN:20000<N) (hc:CodeV m c) (hs:StV m c s) {x:zB} (hx:c.zA[s.At.toNat]?=some x) (hop:x.Op=19):zcr N m c s x:=by
 have iv:=zf1 hc (lmg hx) hop (U:=⟨false,false,false,false,false,false,false,false,false,false,false,false,false,false,0,0⟩) rfl
 have hi:idx c.zA s.At=some x:=by unfold idx;rw [ifp hs.at0,hx]
 have m8:=hc.m2
 have a0:=hs.at0
 have a1:=hs.at1
 have n240:=hc.len
 have wn1:w6 (s.At+1)=s.At+1:=w6e
 unfold zcr
 rw [zaj7 s hop,zajo N _ hop,zair N hop hi]
 have h6:=hs.stk
 unfold zlg
 simp only [zbc]
 by_cases h:s.Stack.length=0
 · rw [ifp h,w6e,dct (show(s.Stack.length:Int)-1<0 by omega),dct (show(s.Stack.length:Int)=0 by omega)];exact .inr ⟨_,_,_,rfl,rfl,rfl,(fun h=>by have h':(1:Int)=0:=h;omega),hs.updT (by omega) (by omega),rfl,rfl,rfl⟩
 · have hl:(s.Stack.length:Int)-1=((s.Stack.length-1:Nat):Int):=by omega
   have hx1:s.Stack[s.Stack.length-1]?=some (s.Stack.getD (s.Stack.length-1) 0):=by rw [gdd,lge (by omega)];rfl
   obtain⟨hr,_⟩:=hs.calls _ (lmg hx1);have hcl:∀l:List Int,l.length≤6→zdk 8 l=some l:=fun l hl=>by unfold zdk;rw [zbe (by omega)];rfl
   rw [ifn h,w6e (n:=(s.Stack.length:Int)-1),dcf (show ¬(s.Stack.length:Int)-1<0 by omega),dcf (show ¬(s.Stack.length:Int)=0 by omega)];simp only [cfa];rw [hl,zau,hx1];simp only [obs];rw [ifp,ifp,ifp,ifp,itn,hx1];simp only [obs];rw [ifp,ifp,show(0:Int).toNat=0 from rfl,dr0,dr0,Nat.sub_zero,hcl _ (by rw [lnt];omega),w6e];refine .inr ⟨_,_,_,rfl,rfl,rfl,fun _=>⟨rfl,by omega,by omega⟩,hs.updK ?_ ?_,rfl,rfl,rfl⟩
   · rw [lnt];omega
   · intro i hi2;exact hs.calls i (List.mem_of_mem_take hi2)
theorem zaj6 (s:zC) {x:zB} (hop:x.Op=20):zai s x=(if inB (zfq (rg s x.R)) 100 999=true then .error (zfq (rg s x.R))else .error 2):=by
 cases x;cases hop;rfl
theorem zajn (N:Nat) (M:zG) {x:zB} (hop:x.Op=20):zf N M x=(zkd N M x).bind fun r=>some (w6 (r.zC.At+1),r):=by
 cases x;cases hop;rfl
theorem zaiq (N:Nat) {x:zB} (hop:x.Op=20) (hi:idx c.zA s.At=some x):ze N c s=if 0≤x.R then(if x.R<(s.Registers.length:Int)then((s.Registers[x.R.toNat]?).bind fun x7=>(zf4 N x7).bind fun r8=>(zg r8 100 999).bind fun r9=>cond r9 (some (0,r8,s)) (some (0,2,s)))else none)else none:=by
 unfold ze
 rw [hi,obs]
 clear hi
 cases x;cases hop;rfl
theorem zafu (N:Nat) (hN:20000<N) (hc:CodeV m c) (hs:StV m c s) {x:zB} (hx:c.zA[s.At.toNat]?=some x) (hop:x.Op=20):zcr N m c s x:=by
 have iv:=zf1 hc (lmg hx) hop (U:=⟨true,false,false,false,false,false,false,false,false,false,false,false,false,false,0,0⟩) rfl
 have hi:idx c.zA s.At=some x:=by unfold idx;rw [ifp hs.at0,hx]
 have m8:=hc.m2
 have a0:=hs.at0
 have a1:=hs.at1
 have n240:=hc.len
 have wn1:w6 (s.At+1)=s.At+1:=w6e
 unfold zcr
 rw [zaj6 s hop,zajn N _ hop,zaiq N hop hi]
 obtain⟨g1,g2,g3,g4,g5⟩:=zgh hs (iv.r rfl)
 unfold zkd
 simp only []
 rw [g4,ifp g1,ifp g2,g3]
 simp only [obs]
 rw [z5l N (by omega) g5,zvd N (by omega) g5]
 simp only [obs]
 rw [zpf,zg2]
 simp only [obs]
 cases hin:inB (zfq (rg s x.R)) 100 999 with
 | false=>
  rw [ifn (by decide)];simp only [Bool.not_false,ctr,cfa];rw [zim _ _ _ _ (by decide)];exact .inl ⟨2,_,_,s,rfl,by omega,rfl,rfl⟩
 | true=>
  have hr:=zaq.1 hin;rw [ifp rfl];simp only [bnt,ctr,cfa];rw [zim _ _ _ _ (by omega)];exact .inl ⟨_,_,_,s,rfl,by omega,rfl,rfl⟩
theorem zxf (hs:StV m c s) (l:ByteArray) (hl:l.size≤256) (n240:c.zA.length≤240):
 ∃t,zlc s l= .ok (s.At+1,t)∧
  (cond ((s.Lines.length:Int)==40) (some (⟨updT s 3,c,0⟩:zG)) ((zdk 16 s.Lines).bind fun r6=>cond (Nat.ble ((r6.length+([l]:List ByteArray).length)*16) zr) (some (⟨updL s (r6++[l]),c,0⟩:zG)) none))=some ⟨t,c,0⟩∧
  (cond ((s.Lines.length:Int)==40) (some ((0:Int),updT s 3)) (cond (Nat.ble ((s.Lines.length+([l]:List ByteArray).length)*16) zr) (some (0,updL s (s.Lines++[l]))) none))=some (0,t)∧StV m c t∧t.At=s.At∧t.Steps=s.Steps∧t.Exception=s.Exception:=by
 have h40:=hs.lines
 unfold zlc
 rw [zbc]
 by_cases h:s.Lines.length=40
 · rw [ifp h,dct (show(s.Lines.length:Int)=40 by omega)];exact⟨_,rfl,rfl,rfl,hs.updT (by omega) (by omega),rfl,rfl,rfl⟩
 · rw [ifn h,dcf (show ¬(s.Lines.length:Int)=40 by omega)];have hcl:zdk 16 s.Lines=some s.Lines:=by unfold zdk;rw [zbe (by omega)];rfl
   have hrm:Nat.ble ((s.Lines.length+([l]:List ByteArray).length)*16) zr=true:=zbe (by simp only [lnc,ln0];omega);simp only [cfa];rw [hcl];simp only [obs];rw [hrm];exact⟨_,rfl,rfl,rfl,hs.updL (by omega) hl,rfl,rfl,rfl⟩
theorem zaj4 (s:zC) {x:zB} (hop:x.Op=22):zai s x=(zlc s (zrj (rg s x.R))):=by
 cases x;cases hop;rfl
theorem zajl (N:Nat) (M:zG) {x:zB} (hop:x.Op=22):zf N M x=((idx M.zC.Registers x.R).bind fun x1=>(zi9 x1).bind fun r2=>cond ((M.zC.Lines.length:Int)==40) (some (⟨updT M.zC 3,M.code,M.raised⟩:zG)) ((zdk 16 M.zC.Lines).bind fun r6=>cond (Nat.ble ((r6.length+([r2.1]:List ByteArray).length)*16) zr) (some (⟨updL M.zC (r6++[r2.1]),M.code,M.raised⟩:zG)) none)).bind fun r=>some (w6 (r.zC.At+1),r):=by
 cases x;cases hop;rfl
theorem zaio (N:Nat) {x:zB} (hop:x.Op=22) (hi:idx c.zA s.At=some x):ze N c s=(if 0≤x.R then(if x.R<(s.Registers.length:Int)then((s.Registers[x.R.toNat]?).bind fun x1=>(zd0 N x1).bind fun r2=>cond ((s.Lines.length:Int)==40) (some (0,updT s 3)) (cond (Nat.ble ((s.Lines.length+([r2]:List ByteArray).length)*16) zr) (some (0,updL s (s.Lines++[r2]))) none))else none)else none).bind fun r=>some (w6 (s.At+1),r.1,r.2):=by
 unfold ze
 rw [hi,obs]
 clear hi
 cases x;cases hop;rfl
theorem zafs (N:Nat) (hN:20000<N) (hc:CodeV m c) (hs:StV m c s) {x:zB} (hx:c.zA[s.At.toNat]?=some x) (hop:x.Op=22):zcr N m c s x:=by
 have iv:=zf1 hc (lmg hx) hop (U:=⟨true,false,false,false,false,false,false,false,false,false,false,false,false,false,0,0⟩) rfl
 have hi:idx c.zA s.At=some x:=by unfold idx;rw [ifp hs.at0,hx]
 have m8:=hc.m2
 have a0:=hs.at0
 have a1:=hs.at1
 have n240:=hc.len
 have wn1:w6 (s.At+1)=s.At+1:=w6e
 unfold zcr
 rw [zaj4 s hop,zajl N _ hop,zaio N hop hi]
 obtain⟨g1,g2,g3,g4,g5⟩:=zgh hs (iv.r rfl)
 simp only []
 rw [g4,ifp g1,ifp g2,g3]
 simp only [obs]
 rw [zaa1 g5,z7n N (by omega) g5]
 simp only [obs]
 obtain⟨t,p1,p2,p3,p4,p5,p6,p7⟩:=zxf hs (zrj (rg s x.R)) (z8l g5) n240
 rw [p1,p2,p3]
 refine .inr ⟨_,_,_,rfl,?_,?_,fun _=>⟨rfl,by omega,by omega⟩,p4,p5,p6,p7⟩
 · show some (w6 (t.At+1),_)=_;rw [p5,wn1]
 · show some (w6 (s.At+1),_)=_;rw [wn1]
theorem zaj3 (s:zC) {x:zB} (hop:x.Op=23):zai s x=(match ziu s.Storage x.Place x.zF with| .error e=> .error e| .ok b=>zlc s b):=by
 cases x;cases hop;rfl
theorem zajk (N:Nat) (M:zG) {x:zB} (hop:x.Op=23):zf N M x=((zba N M x.Place x.zF).bind fun r4=>cond (!r4.2.1) (some r4.2.2) (cond ((r4.2.2.zC.Lines.length:Int)==40) (some (⟨updT r4.2.2.zC 3,r4.2.2.code,r4.2.2.raised⟩:zG)) ((zdk 16 r4.2.2.zC.Lines).bind fun r6=>cond (Nat.ble ((r6.length+([r4.1]:List ByteArray).length)*16) zr) (some (⟨updL r4.2.2.zC (r6++[r4.1]),r4.2.2.code,r4.2.2.raised⟩:zG)) none))).bind fun r=>some (w6 (r.zC.At+1),r):=by
 cases x;cases hop;rfl
theorem zain (N:Nat) {x:zB} (hop:x.Op=23) (hi:idx c.zA s.At=some x):ze N c s=((zdh N s x.Place x.zF).bind fun r3=>cond (r3.2 !=0) (some (r3.2,s)) (cond ((s.Lines.length:Int)==40) (some (0,updT s 3)) (cond (Nat.ble ((s.Lines.length+([r3.1]:List ByteArray).length)*16) zr) (some (0,updL s (s.Lines++[r3.1]))) none))).bind fun r=>some (w6 (s.At+1),r.1,r.2):=by
 unfold ze
 rw [hi,obs]
 clear hi
 cases x;cases hop;rfl
theorem zafr (N:Nat) (hN:20000<N) (hc:CodeV m c) (hs:StV m c s) {x:zB} (hx:c.zA[s.At.toNat]?=some x) (hop:x.Op=23):zcr N m c s x:=by
 have iv:=zf1 hc (lmg hx) hop (U:=⟨false,false,false,true,false,false,false,false,false,false,false,false,false,false,2,0⟩) rfl
 have hi:idx c.zA s.At=some x:=by unfold idx;rw [ifp hs.at0,hx]
 have m8:=hc.m2
 have a0:=hs.at0
 have a1:=hs.at1
 have n240:=hc.len
 have wn1:w6 (s.At+1)=s.At+1:=w6e
 unfold zcr
 rw [zaj3 s hop,zajk N _ hop,zain N hop hi]
 have hp:zcn s.Storage x.Place (szE x.zF)=true:=by rw [ze5 hs.size];have:=iv.pl rfl;unfold zdp at this;rw [ifn]at this;exact this
 have hz1:=zh3 (iv.ty2 rfl).1
 rcases zor N (by omega) s c hs.sto (iv.ty2 rfl).1 hp with⟨e,b,k,he,h1,h2,h3⟩|⟨b,h1,h2,h3,h4⟩
 · rw [h1,h2,h3];refine .inl ⟨e,_,w6 (s.At+1),s,rfl,by omega,rfl,?_⟩;rcases he with rfl|rfl<;>rfl
 rw [h1,h2,h3]
 simp only [obs,bnt,cfa,bsf]
 obtain⟨t,p1,p2,p3,p4,p5,p6,p7⟩:=zxf hs b (by omega) n240
 rw [p1,p2,p3]
 refine .inr ⟨_,_,_,rfl,?_,?_,fun _=>⟨rfl,by omega,by omega⟩,p4,p5,p6,p7⟩
 · show some (w6 (t.At+1),_)=_;rw [p5,wn1]
 · show some (w6 (s.At+1),_)=_;rw [wn1]
theorem zaj2 (s:zC) {x:zB} (hop:x.Op=24):zai s x=(zlc s x.Text):=by
 cases x;cases hop;rfl
theorem zajj (N:Nat) (M:zG) {x:zB} (hop:x.Op=24):zf N M x=(cond ((M.zC.Lines.length:Int)==40) (some (⟨updT M.zC 3,M.code,M.raised⟩:zG)) ((zdk 16 M.zC.Lines).bind fun r6=>cond (Nat.ble ((r6.length+([x.Text]:List ByteArray).length)*16) zr) (some (⟨updL M.zC (r6++[x.Text]),M.code,M.raised⟩:zG)) none)).bind fun r=>some (w6 (r.zC.At+1),r):=by
 cases x;cases hop;rfl
theorem zaim (N:Nat) {x:zB} (hop:x.Op=24) (hi:idx c.zA s.At=some x):ze N c s=(cond ((s.Lines.length:Int)==40) (some (0,updT s 3)) (cond (Nat.ble ((s.Lines.length+([x.Text]:List ByteArray).length)*16) zr) (some (0,updL s (s.Lines++[x.Text]))) none)).bind fun r=>some (w6 (s.At+1),r.1,r.2):=by
 unfold ze
 rw [hi,obs]
 clear hi
 cases x;cases hop;rfl
theorem zafq (N:Nat) (hN:20000<N) (hc:CodeV m c) (hs:StV m c s) {x:zB} (hx:c.zA[s.At.toNat]?=some x) (hop:x.Op=24):zcr N m c s x:=by
 have iv:=zf1 hc (lmg hx) hop (U:=⟨false,false,false,false,false,false,false,false,false,false,true,false,false,false,0,0⟩) rfl
 have hi:idx c.zA s.At=some x:=by unfold idx;rw [ifp hs.at0,hx]
 have m8:=hc.m2
 have a0:=hs.at0
 have a1:=hs.at1
 have n240:=hc.len
 have wn1:w6 (s.At+1)=s.At+1:=w6e
 unfold zcr
 rw [zaj2 s hop,zajj N _ hop,zaim N hop hi]
 simp only []
 obtain⟨t,p1,p2,p3,p4,p5,p6,p7⟩:=zxf hs x.Text (iv.tx) n240
 rw [p1,p2,p3]
 refine .inr ⟨_,_,_,rfl,?_,?_,fun _=>⟨rfl,by omega,by omega⟩,p4,p5,p6,p7⟩
 · show some (w6 (t.At+1),_)=_;rw [p5,wn1]
 · show some (w6 (s.At+1),_)=_;rw [wn1]
theorem zaj1 (s:zC) {x:zB} (hop:x.Op=25):zai s x=(if s.Marks=300 then .ok (s.At+1,updT s 3)else .ok (s.At+1,updM s (s.Marks+1))):=by
 cases x;cases hop;rfl
theorem zaji (N:Nat) (M:zG) {x:zB} (hop:x.Op=25):zf N M x=(zle M).bind fun r=>some (w6 (r.zC.At+1),r):=by
 cases x;cases hop;rfl
theorem zail (N:Nat) {x:zB} (hop:x.Op=25) (hi:idx c.zA s.At=some x):ze N c s=cond (s.Marks==300) (some ((w6 (s.At+1)),0,updT s 3)) (some ((w6 (s.At+1)),0,updM s (w6 (s.Marks+1)))):=by
 unfold ze
 rw [hi,obs]
 clear hi
 cases x;cases hop;rfl
theorem zafp (N:Nat) (hN:20000<N) (hc:CodeV m c) (hs:StV m c s) {x:zB} (hx:c.zA[s.At.toNat]?=some x) (hop:x.Op=25):zcr N m c s x:=by
 have iv:=zf1 hc (lmg hx) hop (U:=⟨false,false,false,false,false,false,false,false,false,false,false,false,false,false,0,0⟩) rfl
 have hi:idx c.zA s.At=some x:=by unfold idx;rw [ifp hs.at0,hx]
 have m8:=hc.m2
 have a0:=hs.at0
 have a1:=hs.at1
 have n240:=hc.len
 have wn1:w6 (s.At+1)=s.At+1:=w6e
 unfold zcr
 rw [zaj1 s hop,zaji N _ hop,zail N hop hi]
 have k0:=hs.mk0
 have k1:=hs.mk1
 unfold zle
 simp only [zbc]
 rw [w6e (n:=s.Marks+1),wn1]
 by_cases h:s.Marks=300
 · rw [ifp h,dct h];refine .inr ⟨_,_,_,rfl,?_,rfl,fun _=>⟨rfl,by omega,by omega⟩,hs.updT (by omega) (by omega),rfl,rfl,rfl⟩;show some (w6 (s.At+1),_)=_;rw [wn1];rfl
 · rw [ifn h,dcf h];refine .inr ⟨_,_,_,rfl,?_,rfl,fun _=>⟨rfl,by omega,by omega⟩,hs.updM (by omega) (by omega),rfl,rfl,rfl⟩;show some (w6 (s.At+1),_)=_;rw [wn1];rfl
theorem zaj0 (s:zC) {x:zB} (hop:x.Op=26):zai s x=(.ok (s.At+1,updT s 1)):=by
 cases x;cases hop;rfl
theorem zajh (N:Nat) (M:zG) {x:zB} (hop:x.Op=26):zf N M x=some (w6 (M.zC.At+1),⟨updT M.zC 1,M.code,M.raised⟩):=by
 cases x;cases hop;rfl
theorem zaik (N:Nat) {x:zB} (hop:x.Op=26) (hi:idx c.zA s.At=some x):ze N c s=some (w6 (s.At+1),0,updT s 1):=by
 unfold ze
 rw [hi,obs]
 clear hi
 cases x;cases hop;rfl
theorem zafo (N:Nat) (hN:20000<N) (hc:CodeV m c) (hs:StV m c s) {x:zB} (hx:c.zA[s.At.toNat]?=some x) (hop:x.Op=26):zcr N m c s x:=by
 have iv:=zf1 hc (lmg hx) hop (U:=⟨false,false,false,false,false,false,false,false,false,false,false,false,false,false,0,0⟩) rfl
 have hi:idx c.zA s.At=some x:=by unfold idx;rw [ifp hs.at0,hx]
 have m8:=hc.m2
 have a0:=hs.at0
 have a1:=hs.at1
 have n240:=hc.len
 have wn1:w6 (s.At+1)=s.At+1:=w6e
 unfold zcr
 rw [zaj0 s hop,zajh N _ hop,zaik N hop hi]
 rw [wn1]
 exact .inr ⟨_,_,_,rfl,rfl,rfl,fun _=>⟨rfl,by omega,by omega⟩,hs.updT (by omega) (by omega),rfl,rfl,rfl⟩
theorem zabk (N:Nat) (hN:20000<N) (hc:CodeV m c) (hs:StV m c s) {x:zB} (hx:c.zA[s.At.toNat]?=some x):zcr N m c s x:=by
 obtain⟨⟨h0,h26⟩,_⟩:=zad3 (hc.ins x (lmg hx))
 rcases(by omega:x.Op=0∨x.Op=1∨x.Op=2∨x.Op=3∨x.Op=4∨x.Op=5∨x.Op=6∨x.Op=7∨x.Op=8∨x.Op=9∨x.Op=10∨x.Op=11∨x.Op=12∨x.Op=13∨x.Op=14∨x.Op=15∨x.Op=16∨x.Op=17∨x.Op=18∨x.Op=19∨x.Op=20∨x.Op=21∨x.Op=22∨x.Op=23∨x.Op=24∨x.Op=25∨x.Op=26)with h|h|h|h|h|h|h|h|h|h|h|h|h|h|h|h|h|h|h|h|h|h|h|h|h|h|h
 · exact zah9 N hN hc hs hx h
 · exact zah8 N hN hc hs hx h
 · exact zah7 N hN hc hs hx h
 · exact zah6 N hN hc hs hx h
 · exact zah5 N hN hc hs hx h
 · exact zah4 N hN hc hs hx h
 · exact zah3 N hN hc hs hx h
 · exact zah2 N hN hc hs hx h
 · exact zah1 N hN hc hs hx h
 · exact zah0 N hN hc hs hx h
 · exact zaf4 N hN hc hs hx h
 · exact zaf3 N hN hc hs hx h
 · exact zaf2 N hN hc hs hx h
 · exact zaf1 N hN hc hs hx h
 · exact zaf0 N hN hc hs hx h
 · exact zafz N hN hc hs hx h
 · exact zafy N hN hc hs hx h
 · exact zafx N hN hc hs hx h
 · exact zafw N hN hc hs hx h
 · exact zafv N hN hc hs hx h
 · exact zafu N hN hc hs hx h
 · exact zaft N hN hc hs hx h
 · exact zafs N hN hc hs hx h
 · exact zafr N hN hc hs hx h
 · exact zafq N hN hc hs hx h
 · exact zafp N hN hc hs hx h
 · exact zafo N hN hc hs hx h
end
section
variable {m:zJ} {c:zH} {s:zC}
def zmp (t:zT) (a e:Int):Bool:=inB a t.From (t.To-1)&&(decide (t.Exception=0)||decide (t.Exception=e))
def zxo (c:zH) (a e:Int):Option Nat:=(List.range c.zS.length).findSome? fun i=>(c.zS[i]?).bind fun t=>if zmp t a e=true then some i else none
def zet (c:zH) (a e:Int):Int:=match zxo c a e with|some i=>(c.zS.getD i ⟨0,0,0,0⟩).Handler|none=> -1
theorem zxn {a e:Int} {i:Nat} (h:zxo c a e=some i):∃t,c.zS[i]?=some t∧zmp t a e=true:=by
 obtain⟨j,_,hj⟩:=eof h
 rw [Option.bind_eq_some_iff]at hj
 obtain⟨t,ht,hj⟩:=hj
 split at hj
 · rename_i hh;cases hj;exact⟨t,ht,hh⟩
 · cases hj
theorem z0r (hc:CodeV m c) {t:zT} (ht:t∈c.zS):0≤t.From∧t.From≤t.To∧t.To≤(c.zA.length:Int)∧0≤t.Handler∧t.Handler<(c.zA.length:Int):=by
 have:=hc.trap t ht
 unfold zo2 at this
 simp only [Bool.and_eq_true,decide_eq_true_eq]at this
 obtain⟨h1,h2,h3,h4⟩:=this
 have:=zaq.1 h1
 have:=zaq.1 h4
 omega
theorem zuk (hc:CodeV m c) (a e:Int):zet c a e= -1∨(0≤zet c a e∧zet c a e<(c.zA.length:Int)):=by
 unfold zet
 cases h:zxo c a e with
 | none=>exact .inl rfl
 | some i=>
  obtain⟨t,ht,_⟩:=zxn h;right;simp only [];rw [gdd,ht];have:=z0r hc (lmg ht);exact this.2.2.2
theorem z9e (N:Nat) (hN:20000<N) (hc:CodeV m c) (a e:Int):zom N c a e=some (zet c a e):=by
 have n40:=hc.traps
 have n240:=hc.len
 unfold zom zas
 have l1:=zd5 (f:=zas.r0 N) (fun i=>(c.zS,(c.zS.length:Int),(i:Int),a,e)) (fun i=>((c.zS[i]?).bind fun t=>if zmp t a e=true then some i else none).map fun i:Nat=>(i:Int)) c.zS.length
  (fun i hi=>by
   have hx:=lge hi;have hf:=z0r hc (List.getElem_mem hi);simp only [zas.r0,zas.b0,zau,hx,obs,dct (show(i:Int)<(c.zS.length:Int)by omega),ctr];have e1:zmq c.zS[i] a e=some (zmp c.zS[i] a e):=by
    unfold zmq zmp;rw [w6e,zpf,zbc,zbc];simp only [obs];cases inB a c.zS[i].From (c.zS[i].To-1)<;>cases decide (c.zS[i].Exception=0)<;>cases decide (c.zS[i].Exception=e)<;>rfl
   rw [e1,w6e];cases zmp c.zS[i] a e<;>rfl)
  (by simp only [zas.r0,zas.b0,dcf (show ¬(c.zS.length:Int)<(c.zS.length:Int)by omega),cfa]) (N:=N) (by omega)
 simp only [nc0]at l1
 rw [l1]
 have e2:∀l:List Nat,l.findSome? (fun i=>((c.zS[i]?).bind fun t=>if zmp t a e=true then some i else none).map fun i:Nat=>(i:Int))=(l.findSome? (fun i=>(c.zS[i]?).bind fun t=>if zmp t a e=true then some i else none)).map fun i:Nat=>(i:Int):=by
  intro l
  induction l with
  | nil=>rfl
  | cons i l ih=>
   rw [List.findSome?_cons,List.findSome?_cons];cases(c.zS[i]?).bind fun t=>if zmp t a e=true then some i else none with
   | none=>exact ih
   | some j=>rfl
 rw [e2]
 have e3:(List.range c.zS.length).findSome? (fun i=>(c.zS[i]?).bind fun t=>if zmp t a e=true then some i else none)=zxo c a e:=rfl
 rw [e3]
 unfold zet
 cases h:zxo c a e with
 | none=>rfl
 | some i=>
  obtain⟨t,ht,_⟩:=zxn h;simp only [Option.map_some,zbu,obs];rw [dcf (show ¬((i:Nat):Int)<0 by omega),cfa,zau,ht,gdd,ht];rfl
theorem z8z (N:Nat) (hN:20000<N) (hc:CodeV m c) (a e:Int):zcs N c a e=some (zet c a e):=by
 have n40:=hc.traps
 unfold zcs
 have l1:=zd5 (f:=zcs.r0 N) (fun i=>(a,e,(i:Int),c)) (fun i=>((c.zS[i]?).bind fun t=>if zmp t a e=true then some i else none).map fun i:Nat=>(c.zS.getD i ⟨0,0,0,0⟩).Handler) c.zS.length
  (fun i hi=>by
   have hx:=lge hi;simp only [zcs.r0,zcs.b0,zau,hx,obs,dct (show(i:Int)<(c.zS.length:Int)by omega),ctr];have e1:((cond (decide (c.zS[i].From≤a)) (some (decide (a<c.zS[i].To))) (some false)).bind fun g1002=>(cond g1002 ((cond (c.zS[i].Exception==0) (some true) (some (c.zS[i].Exception==e))).bind fun g1003=>some g1003) (some false)))=some (zmp c.zS[i] a e):=by
    unfold zmp inB;rw [zbc,zbc,show decide (a≤c.zS[i].To-1)=decide (a<c.zS[i].To)by rw [decide_eq_decide];omega];cases decide (c.zS[i].From≤a)<;>cases decide (a<c.zS[i].To)<;>cases decide (c.zS[i].Exception=0)<;>cases decide (c.zS[i].Exception=e)<;>rfl
   rw [←Option.bind_assoc,e1,w6e];simp only [obs];cases zmp c.zS[i] a e with
   | false=>rfl
   | true=>
    simp only [ctr,if_true,Option.map_some];rw [gdd,hx];rfl)
  (by simp only [zcs.r0,zcs.b0,dcf (show ¬(c.zS.length:Int)<(c.zS.length:Int)by omega),cfa]) (N:=N) (by omega)
 simp only [nc0]at l1
 rw [l1]
 have e2:∀l:List Nat,l.findSome? (fun i=>((c.zS[i]?).bind fun t=>if zmp t a e=true then some i else none).map fun i:Nat=>(c.zS.getD i ⟨0,0,0,0⟩).Handler)=(l.findSome? (fun i=>(c.zS[i]?).bind fun t=>if zmp t a e=true then some i else none)).map fun i:Nat=>(c.zS.getD i ⟨0,0,0,0⟩).Handler:=by
  intro l
  induction l with
  | nil=>rfl
  | cons i l ih=>
   rw [List.findSome?_cons,List.findSome?_cons];cases(c.zS[i]?).bind fun t=>if zmp t a e=true then some i else none with
   | none=>exact ih
   | some j=>rfl
 rw [e2]
 unfold zet
 have:(List.range c.zS.length).findSome? (fun i=>(c.zS[i]?).bind fun t=>if zmp t a e=true then some i else none)=zxo c a e:=rfl
 rw [this]
 cases zxo c a e<;>rfl
def updA (s:zC) (k:Int):zC:=⟨s.Registers,s.Condition,s.Storage,k,s.Stack,s.Lines,s.Status,s.Exception,s.Marks,s.Steps⟩
def updE (s:zC) (k:Int):zC:=⟨s.Registers,s.Condition,s.Storage,s.At,s.Stack,s.Lines,s.Status,k,s.Marks,s.Steps⟩
def updP (s:zC) (k:Int):zC:=⟨s.Registers,s.Condition,s.Storage,s.At,s.Stack,s.Lines,s.Status,s.Exception,s.Marks,k⟩
theorem StV.updA (h:StV m c s) {k:Int} (h1:0≤k) (h2:k<(c.zA.length:Int)):StV m c (updA s k):={
 regs:=h.regs,nums:=h.nums,cnd:=h.cnd,sto:=h.sto,size:=h.size,at0:=h1,at1:=h2,stk:=h.stk,calls:=h.calls,lines:=h.lines,long:=h.long,st0:=h.st0,st1:=h.st1,ex0:=h.ex0,ex1:=h.ex1,mk0:=h.mk0,mk1:=h.mk1,sp0:=h.sp0,sp1:=h.sp1}
theorem StV.updE (h:StV m c s) {k:Int} (h1:0≤k) (h2:k≤999):StV m c (updE s k):={
 regs:=h.regs,nums:=h.nums,cnd:=h.cnd,sto:=h.sto,size:=h.size,at0:=h.at0,at1:=h.at1,stk:=h.stk,calls:=h.calls,lines:=h.lines,long:=h.long,st0:=h.st0,st1:=h.st1,ex0:=h1,ex1:=h2,mk0:=h.mk0,mk1:=h.mk1,sp0:=h.sp0,sp1:=h.sp1}
theorem StV.updP (h:StV m c s) {k:Int} (h1:0≤k) (h2:k≤3000):StV m c (updP s k):={
 regs:=h.regs,nums:=h.nums,cnd:=h.cnd,sto:=h.sto,size:=h.size,at0:=h.at0,at1:=h.at1,stk:=h.stk,calls:=h.calls,lines:=h.lines,long:=h.long,st0:=h.st0,st1:=h.st1,ex0:=h.ex0,ex1:=h.ex1,mk0:=h.mk0,mk1:=h.mk1,sp0:=h1,sp1:=h2}
def zgt (c:zH) (e:Int):Nat→zC→zC
 | 0,s=>s
 | k+1,s=>if 0≤zet c s.At e then updA s (zet c s.At e)else if s.Stack.length=0 then updT s 2
  else zgt c e k (updK (updA s (s.Stack.getD (s.Stack.length-1) 0)) (s.Stack.take (s.Stack.length-1)))
theorem zy6 (N:Nat) (hN:20000<N) (hc:CodeV m c) (e:Int) (he:e≠0) (z:zC):∀(k:Nat) (s:zC),StV m c s→s.Stack.length<k→∀K:Nat,k≤K→
 zo (zb7.r0 N) K ⟨s,c,e⟩=some (.inl ⟨zgt c e k s,c,e⟩)∧zo (zec.r0 N) K (e,c,s,z)=some (.inl (zgt c e k s))∧StV m c (zgt c e k s)∧(zgt c e k s).Steps=s.Steps∧(zgt c e k s).Exception=s.Exception∧
 (zgt c e k s).Registers=s.Registers∧(zgt c e k s).Storage=s.Storage∧(zgt c e k s).Lines=s.Lines∧(zgt c e k s).Condition=s.Condition∧(s.Status=0→(zgt c e k s).Status=0∨(zgt c e k s).Status=2)
 | 0,s,_,h,_,_=>by omega
 | k+1,s,hs,h,K,hK=>by
  obtain⟨K,rfl⟩:∃J,K=J+1:=⟨K-1,by omega⟩;have hh:=z9e N hN hc s.At e;have hr:=z8z N hN hc s.At e;have rg:=zuk hc s.At e;have h6:=hs.stk;have n240:=hc.len;simp only [zo,zb7.r0,zb7.b0,zec.r0,zec.b0];rw [hh,hr];simp only [obs];unfold zgt
  by_cases h0:0≤zet c s.At e
  · rw [ifp h0,dct (show zet c s.At e≥0 by omega),zdq,dct (show zet c s.At e≠-1 by omega)];exact⟨rfl,rfl,hs.updA h0 (by omega),rfl,rfl,rfl,rfl,rfl,rfl,fun h=> .inl h⟩
  · rw [ifn h0,dcf (show ¬zet c s.At e≥0 by omega),zdq,dcf (show ¬zet c s.At e≠-1 by omega),zbc,w6e (n:=(s.Stack.length:Int)-1)]
    by_cases hz:s.Stack.length=0
    · rw [ifp hz,dct (show(s.Stack.length:Int)-1<0 by omega),dct (show(s.Stack.length:Int)=0 by omega)];exact⟨rfl,rfl,hs.updT (by omega) (by omega),rfl,rfl,rfl,rfl,rfl,rfl,fun _=> .inr rfl⟩
    · have hl:(s.Stack.length:Int)-1=((s.Stack.length-1:Nat):Int):=by omega
      have hx1:s.Stack[s.Stack.length-1]?=some (s.Stack.getD (s.Stack.length-1) 0):=by rw [gdd,lge (by omega)];rfl
      obtain⟨hrr,_⟩:=hs.calls _ (lmg hx1);have hcl:∀l:List Int,l.length≤6→zdk 8 l=some l:=fun l hl=>by unfold zdk;rw [zbe (by omega)];rfl
      rw [ifn hz,dcf (show ¬(s.Stack.length:Int)-1<0 by omega),dcf (show ¬(s.Stack.length:Int)=0 by omega),hl,zau,hx1];simp only [cfa,obs];rw [ifp,ifp,ifp,ifp,itn,show(0:Int).toNat=0 from rfl,dr0,hcl _ (by rw [lnt];omega)];simp only [obs];have hs2:StV m c (updK (updA s (s.Stack.getD (s.Stack.length-1) 0)) (s.Stack.take (s.Stack.length-1))):=(hs.updA hrr.1 hrr.2).updK (by rw [lnt];omega) fun i hi2=>hs.calls i (List.mem_of_mem_take hi2);exact zy6 N hN hc e he z k _ hs2 (by show(s.Stack.take (s.Stack.length-1)).length<k;rw [lnt];omega) K (by omega)
def zsk (s:zC):zC:=if s.Status=0∧s.Steps=3000 then updT s 3 else s
def zl2 (c:zH) (s:zC):zB:=c.zA.getD s.At.toNat ⟨0,0,0,0,0,⟨false,0,0⟩,⟨false,0,0⟩,⟨0,0,0⟩,⟨0,0,0⟩,false,false,⟨0,0⟩,⟨#[]⟩,⟨#[]⟩,0,0,0,0⟩
def zqe (c:zH) (s:zC):zC:=
 match zai (updP s (s.Steps+1)) (zl2 c s)with
 | .error e=>zsk (zgt c e (s.Stack.length+1) (updE (updP s (s.Steps+1)) e))
 | .ok (n,t)=>if t.Status≠0 then t else if n=(c.zA.length:Int)then updT t 1 else zsk (updA t n)
theorem z5r (t:zC):((cond (t.Status==0) (some (t.Steps==3000)) (some false)).bind fun g=>cond g (some (⟨t.Registers,t.Condition,t.Storage,t.At,t.Stack,t.Lines,3,t.Exception,t.Marks,t.Steps⟩:zC)) (some t))=some (zsk t):=by
 unfold zsk
 rw [zbc,zbc]
 by_cases h1:t.Status=0
 · rw [dct h1]
   by_cases h2:t.Steps=3000
   · rw [dct h2,ifp ⟨h1,h2⟩];rfl
   · rw [dcf h2,ifn (fun h=>h2 h.2)];rfl
 · rw [dcf h1,ifn (fun h=>h1 h.1)];rfl
theorem zabg {t:zC} (h:StV m c t):StV m c (zsk t)∧(zsk t).Steps=t.Steps∧((zsk t).Status=0→t.Steps≠3000):=by
 unfold zsk
 split
 · exact⟨h.updT (by omega) (by omega),rfl,fun h=>by have h':(3:Int)=0:=h;omega⟩
 · rename_i hn;exact⟨h,rfl,fun h1 h2=>hn ⟨h1,h2⟩⟩
theorem zaaw (hc:CodeV m c) (h:StV m c s):zm3 s=some s:=by
 have h1:=h.regs
 have h2:=h.stk
 have h3:=h.lines
 have h4:=h.sto.le
 have h5:=h.sto.tags
 have h6:=hc.m2
 unfold zm3 zmb zj6
 rw [zbe (by omega),ctr,z2d (by omega),obs,zbe (by omega),ctr,obs,zbe (by omega)]
 rfl
theorem z99 (N:Nat) (hN:20000<N) (hc:CodeV m c) (hs:StV m c s) (hrun:s.Status=0) (h3:s.Steps<3000):
 zwk N c s=some (zqe c s)∧znm N c s=some (zqe c s)∧StV m c (zqe c s)∧(zqe c s).Steps=s.Steps+1∧((zqe c s).Status=0→s.Steps+1<3000):=by
 have a0:=hs.at0
 have a1:=hs.at1
 have p0:=hs.sp0
 have hx:c.zA[s.At.toNat]?=some (zl2 c s):=by
  unfold zl2;rw [gdd,lge (by omega)];rfl
 have hi:idx c.zA s.At=some (zl2 c s):=by unfold idx;rw [ifp a0,hx]
 have hs1:StV m c (updP s (s.Steps+1)):=hs.updP (by omega) (by omega)
 have hb:=zabk N hN hc hs1 (x:=zl2 c s) hx
 unfold zwk znm
 rw [hi,zaaw hc hs]
 simp only [obs,eS,eC]
 rw [w6e (n:=s.Steps+1)]
 show((zf N ⟨updP s (s.Steps+1),c,0⟩ (zl2 c s)).bind _)=_∧((ze N c (updP s (s.Steps+1))).bind _)=_∧_
 unfold zqe
 rcases hb with⟨e,nx,ny,t,g1,g2,g3,g4⟩|⟨n,k,t,g1,g3,g4,g5,g6,g7,g8,g9⟩
 · rw [g1,g3,g4];simp only [obs];have hse:StV m c (updE (updP s (s.Steps+1)) e):=hs1.updE (by omega) (by omega);obtain⟨k1,k2,k3,k4,k5,k6,k7,k8,k9,k10⟩:=zy6 N hN hc e (by omega) ⟨[],0,⟨⟨#[]⟩,[]⟩,0,[],[],0,0,0,0⟩ (s.Stack.length+1) _ hse (Nat.lt_succ_self _) N (by have:=hs.stk;omega);rw [zdq,dct (show e≠0 by omega)];simp only [ctr];have hf:=zabg k3;have k4':(zgt c e (s.Stack.length+1) (updE (updP s (s.Steps+1)) e)).Steps=s.Steps+1:=k4;refine⟨?_,?_,hf.1,hf.2.1.trans k4,fun h=> ?_⟩
   · unfold zb7;show((((zo (zb7.r0 N) N ⟨updE (updP s (s.Steps+1)) e,c,e⟩).bind _)).bind _)=_;rw [k1];exact z5r _
   · unfold zec;show((((zo (zec.r0 N) N (e,c,updE (updP s (s.Steps+1)) e,_)).bind _)).bind _)=_;rw [k2];exact z5r _
   · have:=hf.2.2 h;omega
 · rw [g1,g3,g4];simp only [obs,bsf,cfa];have g8':t.Steps=s.Steps+1:=g8;have e0:(t.Status !=0)=decide (t.Status≠0):=zdq _ _;have e1:(t.Status==0)=decide (t.Status=0):=zbc _ _;rw [e0,e1]
   by_cases hst:t.Status=0
   · obtain⟨j1,j2,j3⟩:=g5 hst;subst j1;rw [dct hst,dcf (show ¬t.Status≠0 by omega),ifn (show ¬t.Status≠0 by omega)];simp only [ctr,cfa,zbc]
     by_cases hl:k=(c.zA.length:Int)
     · rw [dct hl,ifp hl];exact⟨rfl,rfl,g6.updT (by omega) (by omega),g8',fun h=>by have h':(1:Int)=0:=h;omega⟩
     · rw [dcf hl,ifn hl];have hta:StV m c (updA t k):=g6.updA (by omega) (by omega);have hf:=zabg hta;have f1:=z5r (updA t k);rw [zbc,zbc]at f1;have e2:(updA t k).Status=t.Status:=rfl;rw [e2,dct hst]at f1;refine⟨f1,f1,hf.1,hf.2.1.trans g8',fun h=> ?_⟩;have:=hf.2.2 h;have e3:(updA t k).Steps=t.Steps:=rfl;have:=g6.sp1;omega
   · rw [dcf hst,dct (show t.Status≠0 from hst),ifp (show t.Status≠0 from hst)];exact⟨rfl,rfl,g6,g8',fun h=>absurd h hst⟩
end
theorem zagm {m:zJ} {c:zH} {n:Int} (h:zo5 m c=(n,0)):(∀x∈c.zA,zmr m c x=0)∧(∀t∈c.zS,zo2 c t=true)∧n=(c.zA.length:Int):=by
 unfold zo5 at h
 cases hf:(List.range c.zA.length).findSome? (gI m c)with
 | some r=>
  rw [hf]at h;simp only at h;subst h;obtain⟨j,_,hj⟩:=eof hf;unfold gI at hj;rw [Option.bind_eq_some_iff]at hj;obtain⟨y,_,hy⟩:=hj
  by_cases h1:zmr m c y=0
  · simp [h1]at hy
  · rw [ifn h1]at hy;simp only [Option.some.injEq,Prod.mk.injEq]at hy;exact absurd hy.2 h1
 | none=>
  rw [hf]at h;simp only at h;have hI:∀x∈c.zA,zmr m c x=0:=fun x hx=>by
   refine cbc fun h0=> ?_;obtain⟨i,hi⟩:=List.getElem?_of_mem hx;rw [List.findSome?_eq_none_iff]at hf;have:=hf i (List.mem_range.2 (gei hi).1);unfold gI at this;rw [hi,obs,ifn h0]at this;cases this
  cases hg:(List.range c.zS.length).findSome? (gT c)with
  | some r=>
   rw [hg]at h;simp only at h;subst h;obtain⟨j,_,hj⟩:=eof hg;unfold gT at hj;rw [Option.bind_eq_some_iff]at hj;obtain⟨y,_,hy⟩:=hj;split at hy
   · cases hy
   · simp only [Option.some.injEq,Prod.mk.injEq]at hy;cases hy.2
  | none=>
   rw [hg]at h;simp only [Prod.mk.injEq]at h;refine⟨hI,fun t ht=> ?_,h.1.symm⟩;refine cbc fun h0=> ?_;obtain⟨i,hi⟩:=List.getElem?_of_mem ht;rw [List.findSome?_eq_none_iff]at hg;have:=hg i (List.mem_range.2 (gei hi).1);unfold gT at this;rw [hi,obs,ifn h0]at this;cases this
theorem zagd {s:Storage} {i:Int} (h:zu7 s=(i,0)) (hn:¬true∈s.Tags):zi1 s:=by
 unfold zu7 at h
 split at h
 · cases h
 · split at h
   · cases h
   · split at h
     · cases h
     · rename_i h1 h2 h3;refine⟨by omega,by omega,by omega,fun k hk=>absurd (lmg hk) hn⟩
theorem zahy (N:Nat) (hN:1048600<N) {m:zJ} {c:zH} (hc:Wft En 1048576 Ty.zH c) {n:Int} (h:zac N m c=some (n,0)):CodeV m c∧n=(c.zA.length:Int):=by
 obtain⟨e,_,he2,he3⟩:=zvu m
 obtain⟨i1,e1,e2,_,hs2,hs⟩:=zzi N (by omega) c.Storage
 have hsp:=(z4b N (by omega) c.Storage).2
 obtain⟨w1,w2,w3,w4,w5⟩:=zqa hc
 unfold zac at h
 try simp only [eS,eM,eC]at h
 rw [he2,hs2]at h
 simp only [obs]at h
 by_cases h0:e=0
 · subst h0;have hm:=he3 rfl;simp only [bsf,cfa]at h
   by_cases h2:e2=0
   · rcases hs with⟨rfl,hs⟩|⟨ok,htl,_,_⟩
     · exact absurd h2 hs
     · subst h2;obtain⟨l,hl1,hl2⟩:=z18 N c.Storage htl (by omega);rw [hl1]at h;simp only [bsf,cfa,obs,orB]at h;cases hd:decide ((l.length:Int)>0)with
       | true=>rw [hd]at h;cases h
       | false=>
        rw [hd]at h hl2;simp only [cfa]at h
        by_cases hz:(c.zA.length:Int)=0
        · rw [hz]at h;cases h
        · rw [zbc,dcf hz]at h;simp only [cfa]at h;cases hb:(decide ((c.zA.length:Int)>240)||decide ((c.zS.length:Int)>40))with
          | true=>rw [hb]at h;cases h
          | false=>
           rw [hb]at h;simp only [cfa]at h;have:=zzx N hN hm ok hc;rw [this]at h;simp only [Bool.or_eq_false_iff,decide_eq_false_iff_not]at hb;obtain⟨r1,r2,r3⟩:=zagm (Option.some.inj h);have hn:¬true∈c.Storage.Tags:=fun hh=>by
            have:=List.contains_iff_mem.2 hh;rw [←hl2]at this;cases this
           have hst:∃i,zu7 c.Storage=(i,0):=by
            unfold zm4 at hs2
            try simp only [eS]at hs2
            rw [hsp,obs]at hs2;exact⟨(zu7 c.Storage).1,by rw [←Option.some.inj hs2]⟩
           obtain⟨i,hi⟩:=hst;exact⟨{m1:=hm.1,m2:=hm.2,sto:=zagd hi hn,len:=by omega,pos:=by omega,traps:=by omega,ins:=r1,trap:=r2},r3⟩
   · rw [zdq,dct h2]at h;simp only [ctr,Option.some.injEq,Prod.mk.injEq]at h;exact absurd h.2 h2
 · rw [zdq,dct h0]at h;simp only [ctr,Option.some.injEq,Prod.mk.injEq]at h;exact absurd h.2 h0
def z0t (m:zJ) (c:zH):zC:=⟨List.replicate m.Registers.toNat ⟨0,0⟩,0,c.Storage,0,[],[],0,0,0,0⟩
theorem zacf {m:zJ} {c:zH} (hc:CodeV m c):StV m c (z0t m c):=by
 have:=hc.m1
 have:=hc.pos
 exact {
  regs:=by show((List.replicate m.Registers.toNat (⟨0,0⟩:Number)).length:Int)=_;rw [lnr];omega
  nums:=fun r hr=>by rw [(List.mem_replicate.1 hr).2];exact⟨⟨by decide,by decide⟩,by decide,by decide⟩
  cnd:= .inl rfl,sto:=hc.sto,size:=rfl,at0:=by show(0:Int)≤0;omega,at1:=by show(0:Int)<_;omega,stk:=by show 0≤6;omega
  calls:=fun i hi=>(List.not_mem_nil hi).elim
  lines:=by show 0≤40;omega
  long:=fun i hi=>(List.not_mem_nil hi).elim
  st0:=by show(0:Int)≤0;omega,st1:=by show(0:Int)≤3;omega,ex0:=by show(0:Int)≤0;omega,ex1:=by show(0:Int)≤999;omega,mk0:=by show(0:Int)≤0;omega,mk1:=by show(0:Int)≤300;omega,sp0:=by show(0:Int)≤0;omega,sp1:=by show(0:Int)≤3000;omega}
theorem zacn {m:zJ} {c:zH} (hc:CodeV m c):zmf m c=some (z0t m c):=by
 have:=hc.m1
 have:=hc.m2
 have:=hc.sto.le
 have:=hc.sto.tags
 unfold zmf
 rw [ifp,ifp,zbe (by omega),ctr,z2d (by omega)]
 rfl
theorem zabw {op:Int} {a b:Number} {t:DataType} {half:Bool} (h:(zfo op a b t half).2=0):znq t (zfo op a b t half).1.N:=zzc h
theorem zabs {x:Number} {t:DataType} (h0:0≤t.Scale) (hs:x.Scale=t.Scale) (hf:znq t x.N) (half:Bool):zif x t half=(⟨x.N,⟨#[]⟩⟩,0):=by
 unfold zif zz6 zi6
 rw [hs]
 have hp:0<10^t.Scale.toNat:=zee _
 rw [Nat.mul_div_cancel _ hp,Nat.mul_mod_left]
 simp only [Nat.add_zero]
 rw [dcf (show ¬10^t.Scale.toNat≤0 by omega),Bool.and_false,cfa,Nat.add_zero]
 unfold znq at hf
 rw [ifn]
 by_cases hn:x.N<0
 · rw [dct hn,ctr];have: -((x.N.natAbs:Nat):Int)=x.N:=by omega
   rw [this]
 · rw [dcf hn,cfa];have:((x.N.natAbs:Nat):Int)=x.N:=by omega
   rw [this]
theorem zabq (n len:Nat):zlj n (len+1)=zlj (n/10) len++[((n%10:Nat):Int)]:=by
 unfold zlj
 rw [List.range_succ,List.map_append]
 congr 1
 · refine List.map_congr_left fun j hj=> ?_;have hj:=List.mem_range.1 hj;rw [show len+1-1-j=(len-1-j)+1 by omega,Nat.pow_succ',←Nat.div_div_eq_div_mul]
 · simp
theorem z3a:∀(len n:Nat),zcy (zlj n len)=((n%10^len:Nat):Int)
 | 0,n=>by simp [zlj,zcy,Nat.mod_one]
 | len+1,n=>by
  rw [zabq,zpi,z3a len (n/10),Nat.pow_succ',Nat.mod_mul];omega
theorem z3g {z d:List Int} {len g:Int} (hz:∀x∈z,x=0) (hd:∀x∈d,0≤x∧x≤9) (hl:(d.length:Int)=len) (hg:10≤g):zxz (z++d++[g]) len=some (if g=11∨g=13 then-zcy d else zcy d):=by
 have hlen:(z++d++[g]).length=z.length+d.length+1:=by simp;omega
 have hs:znw (z++d++[g])=g:=by
  unfold znw;rw [hlen,gdd,List.getElem?_append_right (by simp)];simp
 have ht:(z++d++[g]).take ((z++d++[g]).length-1)=z++d:=by
  rw [hlen,List.take_append_of_le_length (by simp)];rw [List.take_of_length_le (by simp)]
 unfold zxz
 rw [hs,ht,zxt,ztz z hz,Int.zero_mul,Int.zero_add]
 refine ifn ?_
 rintro (h|h)
 · obtain⟨i,hi,hb⟩:=List.any_eq_true.1 h;have hi:i<z.length+d.length:=by
    have:=List.mem_range.1 hi;omega
   unfold znd at hb;rw [hlen,gdd,List.getElem?_append_left (by simp;omega)]at hb
   by_cases hiz:i<z.length
   · rw [List.getElem?_append_left hiz,lge hiz,hz _ (List.getElem_mem hiz)]at hb;simp at hb
   · rw [List.getElem?_append_right (by omega),lge (by omega)]at hb;have:=hd _ (List.getElem_mem (show i-z.length<d.length by omega));simp only [Option.getD_some,Bool.or_eq_true,Bool.and_eq_true,decide_eq_true_eq]at hb;omega
 · omega
theorem zxj {x:Int} (h0:0≤x) (h1:x<256):((UInt8.ofNat x.toNat).toNat:Int)=x:=by
 rw [UInt8.toNat_ofNat']
 omega
theorem z27:∀(n:Nat) (l:List Int),l.length=2*n→(∀d∈l,0≤d∧d<16)→zol ((zi7 l).map fun x=>UInt8.ofNat x.toNat)=l
 | 0,l,hl,_=>by
  have:l=[]:=List.length_eq_zero_iff.1 (by omega);subst this;rfl
 | n+1,[],hl,_=>by simp at hl
 | n+1,[x],hl,_=>by simp at hl;omega
 | n+1,a::b::l,hl,hd=>by
  have ha:=hd a (by simp);have hb:=hd b (by simp);have ih:=z27 n l (by simp at hl;omega) fun d h=>hd d (by simp [h]);have e:=zxj (x:=16*a+b) (by omega) (by omega);show zol (UInt8.ofNat (16*a+b).toNat::(zi7 l).map fun x=>UInt8.ofNat x.toNat)=_;unfold zol at ih⊢;rw [List.flatMap_cons,ih];have e1:(((UInt8.ofNat (16*a+b).toNat).toNat/16:Nat):Int)=a:=by omega
  have e2:(((UInt8.ofNat (16*a+b).toNat).toNat%16:Nat):Int)=b:=by omega
  rw [e1,e2];rfl
theorem zac4 {d:List Int} (h0:0<d.length) (hd:∀x∈d,0≤x∧x≤9) (neg:Bool):zg7 ((zze d neg).map fun x=>UInt8.ofNat x.toNat)=d++[cond neg 13 15]:=by
 have hs:=z1h h0
 have hlast:=hd _ (lmg (show d[d.length-1]?=some (d.getD (d.length-1) 0)by rw [gdd,lge (by omega)];rfl))
 have hpre:∀x∈d.take (d.length-1),0≤x∧x≤9:=fun x hx=>hd x (List.mem_of_mem_take hx)
 unfold zze
 generalize d.getD (d.length-1) 0=y at*
 generalize d.take (d.length-1)=p at*
 subst hs
 have hl:((p.map (· +240)++[y+cond neg 208 240]).map fun x:Int=>UInt8.ofNat x.toNat)=(p.map fun x:Int=>UInt8.ofNat (x+240).toNat)++[UInt8.ofNat (y+cond neg 208 240).toNat]:=by simp
 rw [hl]
 have hc:(cond neg 208 240:Int)=208∨(cond neg 208 240:Int)=240:=by cases neg<;>simp
 have ey:=zxj (x:=y+cond neg 208 240) (by omega) (by omega)
 unfold zg7 zix
 rw [List.map_append,List.map_map]
 have e1:p.map ((fun b:UInt8=>((b.toNat%16:Nat):Int))∘fun x=>UInt8.ofNat (x+240).toNat)=p:=by
  conv=>rhs;rw [←List.map_id p]
  refine List.map_congr_left fun x hx=> ?_;have:=hpre x hx;have e:=zxj (x:=x+240) (by omega) (by omega);show(((UInt8.ofNat (x+240).toNat).toNat%16:Nat):Int)=x;omega
 rw [e1]
 have e2:((p.map fun x=>UInt8.ofNat (x+240).toNat)++[UInt8.ofNat (y+cond neg 208 240).toNat]).getD (((p.map fun x=>UInt8.ofNat (x+240).toNat)++[UInt8.ofNat (y+cond neg 208 240).toNat]).length-1) 0=UInt8.ofNat (y+cond neg 208 240).toNat:=by
  rw [gdd,List.getElem?_append_right (by simp)];simp
 rw [e2,List.map_singleton]
 have e3:(((UInt8.ofNat (y+cond neg 208 240).toNat).toNat%16:Nat):Int)=y:=by cases neg<;>simp only [ctr,cfa]at ey⊢<;>omega
 have e4:(((UInt8.ofNat (y+cond neg 208 240).toNat).toNat/16:Nat):Int)=cond neg 13 15:=by cases neg<;>simp only [ctr,cfa]at ey⊢<;>omega
 rw [e3,e4]
theorem z6m (l:List Int):bl (zdg l)=l.map fun n=>UInt8.ofNat n.toNat:=rfl
theorem zafj {t:DataType} (ht:zij t) {n:Int} (hn:znq t n):zj4 t (zn0 t n)=some n:=by
 obtain⟨⟨l1,l2⟩,_,_⟩:=zgb ht
 have hn2:=hn
 unfold znq at hn2
 have hd:∀x∈zlj n.natAbs t.Length.toNat,0≤x∧x≤9:=zrt
 have hdl:(zlj n.natAbs t.Length.toNat).length=t.Length.toNat:=zsm _ _
 have hfd:zcy (zlj n.natAbs t.Length.toNat)=(n.natAbs:Int):=by
  rw [z3a,mel (by omega)]
 unfold zj4 zn0
 by_cases hk:t.Kind=3
 · rw [ifp hk,ifp hk];have hs:((szE t).toNat=2∧t.Length=4)∨((szE t).toNat=4∧t.Length=9):=by
    have h0:=ht.1;rw [zua ht,ifn,ifp hk];unfold zb3 at h0;rw [ifn,ifn,ifp hk]at h0;split at h0
    · rename_i h;rcases h with h|h<;>rw [h]<;>simp
    · cases h0
   have key:∀k:Nat,(k=2∧t.Length=4)∨(k=4∧t.Length=9)→z0n (bl (zdg (z5w n k)))=n:=by
    intro k hk2;have hp:(10^t.Length.toNat:Nat)≤128*256^(k-1)∧0<k:=by
     rcases hk2 with⟨rfl,e⟩|⟨rfl,e⟩<;>rw [e]<;>decide
    obtain⟨m,hm,hml⟩:∃m:Nat,((m:Int)=n∨(m:Int)=n+(256^k:Nat))∧m<256^k∧(n<0↔128*256^(k-1)≤m):=by
     have h256:256^k=256*256^(k-1):=by
      rw [←Nat.pow_succ']
      congr 1
      omega
     have h1:0<256^(k-1):=Nat.pow_pos (by decide)
     by_cases hneg:n<0
     · refine⟨(n+(256^k:Nat)).toNat,.inr ?_,?_,?_⟩<;>omega
     · refine⟨n.toNat,.inl ?_,?_,?_⟩<;>omega
    rw [←z0i n k m hm,z6m];unfold z0n;rw [z0o,mel hml.1,lnm,zwc];have hh:((zir m k).map fun n=>UInt8.ofNat n.toNat).getD 0 0=UInt8.ofNat (m/256^(k-1)):=by
     rw [gdd,List.getElem?_map];unfold zir;rw [List.getElem?_map,List.getElem?_range (by omega)];simp only [Option.map_some,Option.getD_some,Nat.sub_zero,itn];have:m/256^(k-1)<256:=by
      rw [Nat.div_lt_iff_lt_mul (Nat.pow_pos (by decide)),←Nat.pow_succ',show(k-1).succ=k by omega];exact hml.1
     rw [mel this]
    rw [hh,UInt8.toNat_ofNat'];have hlt:m/256^(k-1)<256:=by
     rw [Nat.div_lt_iff_lt_mul (Nat.pow_pos (by decide)),←Nat.pow_succ',show(k-1).succ=k by omega];exact hml.1
    rw [mel hlt];have hiff:128≤m/256^(k-1)↔128*256^(k-1)≤m:=Nat.le_div_iff_mul_le (Nat.pow_pos (by decide))
    by_cases hneg:n<0
    · rw [ifp (hiff.2 (hml.2.1 hneg))];have:=hml.1;omega
    · rw [ifn fun h=>hneg (hml.2.2 (hiff.1 h))];have:=hml.1;omega
   rw [key _ hs,ifp hn2]
 · rw [ifn hk,ifn hk];have hk12:t.Kind=1∨t.Kind=2:=by have:=ht.2;omega
   by_cases hk2:t.Kind=2
   · rw [ifn,ifp hk2,z6m,zac4 (by omega) hd,←List.nil_append (zlj _ _),z3g (by simp) hd (by omega) (by cases decide (n<0)<;>decide),hfd]
     by_cases hneg:n<0
     · rw [dct hneg];simp only [ctr];rw [ifp (by decide)]
       congr 1
       omega
     · rw [dcf hneg];simp only [cfa];rw [ifn (by decide)]
       congr 1
       omega
   · have hk1:t.Kind=1:=by omega
     have hpl:=zro (t:=t) l1 n;rw [ifp hk1,ifn hk2,z6m,z27 _ _ hpl.1 hpl.2];unfold zse;rw [z3g (z:=if t.Length%2=0 then [0]else []) (fun x hx=>by split at hx<;>simp at hx;exact hx) hd (by omega) (by split<;>decide),hfd]
     by_cases hneg:n<0
     · rw [ifp hneg,ifp (by decide)]
       congr 1
       omega
     · rw [ifn hneg,ifn (by decide)]
       congr 1
       omega
variable {m:zJ} {c:zH} {s t:zC}
structure zkf (s:zC) (f:zD):Prop where
 sc:(rg s f.Register).Scale=f.zF.Scale
 ft:znq f.zF (rg s f.Register).N
 mem:f.Offset= -1∨zj4 f.zF (s.Storage.Bytes.extract f.Offset.toNat (f.Offset+szE f.zF).toNat)=some (rg s f.Register).N
theorem zai1 {i j:Int} (n:Number) (hi:0≤i) (hj:0≤j) (h:j≠i):rg (updR s i n) j=rg s j:=by
 unfold rg updR
 simp only [gdd]
 rw [List.getElem?_set_ne (by omega)]
theorem z8w {i:Int} (n:Number) (hi:i.toNat<s.Registers.length):rg (updR s i n) i=n:=by
 unfold rg updR
 simp only [gdd]
 rw [List.getElem?_set_self hi]
 rfl
theorem zkf.keep {f:zD} (h:zkf s f) (h1:rg t f.Register=rg s f.Register) (h2:f.Offset= -1∨t.Storage.Bytes.extract f.Offset.toNat (f.Offset+szE f.zF).toNat=s.Storage.Bytes.extract f.Offset.toNat (f.Offset+szE f.zF).toNat):zkf t f:=by
 refine⟨by rw [h1];exact h.sc,by rw [h1];exact h.ft,?_⟩
 rcases h2 with h2|h2
 · exact .inl h2
 · rcases h.mem with h3|h3
   · exact .inl h3
   · exact .inr (by rw [h1,h2];exact h3)
theorem zkf.same {f:zD} (h:zkf s f) (h1:t.Registers=s.Registers) (h2:t.Storage=s.Storage):zkf t f:=h.keep (by unfold rg;rw [h1]) (.inr (by rw [h2]))
theorem z2e {t:DataType} (h:zb3 t=0) (h0:t.Kind≠0) (h4:t.Kind≠4):zij t:=by
 refine⟨h,?_⟩
 rcases zlt h with⟨h1,_⟩|⟨h1|h1,_⟩|⟨h1,_⟩|⟨h1,_⟩<;>omega
theorem zab5 {s:Storage} {a:Nat} {d:ByteArray} (h:a+d.size≤s.Bytes.size) {i j:Nat} (hij:i≤j) (hd:j≤a∨a+d.size≤i):(wrV s a d).Bytes.extract i j=s.Bytes.extract i j:=by
 apply zi2
 rw [ze6,ze6,List.drop_take,List.drop_take]
 exact z6a (l:=bl s.Bytes) (d:=bl d) h i (j-i) (by show i+(j-i)≤a∨a+d.size≤i;omega)
theorem zaf9 {s:Storage} {a:Nat} {d:ByteArray} (h:a+d.size≤s.Bytes.size):(wrV s a d).Bytes.extract a (a+d.size)=d:=by
 apply zi2
 rw [ze6,List.drop_take,Nat.add_sub_cancel_left]
 exact zaaa (l:=bl s.Bytes) (d:=bl d) h
theorem ex0 {x:zB} (h:x.Op=0):zai s x=match zq7 s.Storage x.Place x.zF with| .error e=> .error e| .ok n=> .ok (s.At+1,updR s x.R n):=by unfold zai;rw [h];rfl
theorem ex1 {x:zB} (h:x.Op=1):zai s x=if(zif (rg s x.R) x.zF x.Half).2≠0 then .error 2 else match zfp s.Storage x.Place (szE x.zF)with| .error e=> .error e| .ok a=> .ok (s.At+1,updS s (wrV s.Storage a.toNat (zn0 x.zF (zif (rg s x.R) x.zF x.Half).1.N))):=by unfold zai;rw [h];rfl
theorem ex2 {x:zB} (h:x.Op=2):zai s x= .ok (s.At+1,updR s x.R x.Number):=by unfold zai;rw [h];rfl
theorem ex3 {x:zB} (h:x.Op=3):zai s x= .ok (s.At+1,updR s x.R (rg s x.A)):=by unfold zai;rw [h];rfl
theorem ex4 {x:zB} (h:x.Op=4):zai s x=match(if x.zP=true then zq7 s.Storage x.Place x.Second else .ok (rg s x.B))with
 | .error e=> .error e
 | .ok b=>if(zfo x.zM (rg s x.A) b x.zF false).2=20 then .error 3 else if(zfo x.zM (rg s x.A) b x.zF false).2≠0 then .error 2 else .ok (s.At+1,updR s x.R ⟨(zfo x.zM (rg s x.A) b x.zF false).1.N,x.zF.Scale⟩):=by unfold zai;rw [h];rfl
theorem ex5 {x:zB} (h:x.Op=5):zai s x= .ok (s.At+1,updC s (zn1 s x.A x.B)):=by unfold zai;rw [h];rfl
theorem ex6 {x:zB} (h:x.Op=6):zai s x= .ok (cond (zj .i64 s.Condition x.Mask !=0) x.Target (s.At+1),s):=by unfold zai;rw [h];rfl
theorem ex7 {x:zB} (h:x.Op=7):zai s x= .ok (cond (zj .i64 (zn1 s x.A x.B) x.Mask !=0) x.Target (s.At+1),s):=by unfold zai;rw [h];rfl
theorem ex8 {x:zB} (h:x.Op=8):zai s x= .ok (x.Target,s):=by unfold zai;rw [h];rfl
theorem ex9 {x:zB} (h:x.Op=9):zai s x=match ziu s.Storage x.From x.Second with
 | .error e=> .error e
 | .ok b=>match zfp s.Storage x.Place (szE x.zF)with| .error e=> .error e| .ok a=> .ok (s.At+1,updS s (wrV s.Storage a.toNat (zkc b x.zF.Length.toNat))):=by unfold zai;rw [h];rfl
theorem ex10 {x:zB} (h:x.Op=10):zai s x=match zfp s.Storage x.Place (szE x.zF)with| .error e=> .error e| .ok a=> .ok (s.At+1,updS s (wrV s.Storage a.toNat (zkc x.Text x.zF.Length.toNat))):=by unfold zai;rw [h];rfl
theorem ex11 {x:zB} (h:x.Op=11):zai s x=match ziu s.Storage x.Place x.zF with
 | .error e=> .error e
 | .ok a=>match ziu s.Storage x.From x.Second with| .error e=> .error e| .ok b=> .ok (s.At+1,updC s (zl5 a b)):=by unfold zai;rw [h];rfl
theorem ex12 {x:zB} (h:x.Op=12):zai s x=match ziu s.Storage x.Place x.zF with| .error e=> .error e| .ok a=> .ok (s.At+1,updC s (zl5 a x.Text)):=by unfold zai;rw [h];rfl
theorem ex13 {x:zB} (h:x.Op=13):zai s x= .ok (s.At+1,updC s (zl5 x.Text x.Other)):=by unfold zai;rw [h];rfl
theorem ex14 {x:zB} (h:x.Op=14):zai s x=match zfp s.Storage x.Place (szE x.zF)with| .error e=> .error e| .ok a=> .ok (s.At+1,updS s (stV s.Storage x.Pointer.toNat a.toNat)):=by unfold zai;rw [h];rfl
theorem ex15 {x:zB} (h:x.Op=15):zai s x=match ldV s.Storage x.Source with|none=> .error 4|some o=> .ok (s.At+1,updS s (stV s.Storage x.Pointer.toNat o.toNat)):=by unfold zai;rw [h];rfl
theorem ex16 {x:zB} (h:x.Op=16):zai s x=match ldV s.Storage x.Pointer with
 | none=> .error 4
 | some o=>if inB (o+zfq (rg s x.R)) 0 16777215=true then .ok (s.At+1,updS s (stV s.Storage x.Pointer.toNat (o+zfq (rg s x.R)).toNat))else .error 5:=by unfold zai;rw [h];rfl
theorem ex17 {x:zB} (h:x.Op=17):zai s x=match ldV s.Storage x.Pointer with|none=> .error 4|some _=> .ok (s.At+1,s):=by unfold zai;rw [h];rfl
theorem ex18 {x:zB} (h:x.Op=18):zai s x=if 6≤s.Stack.length then .error 6 else .ok (x.Target,updK s (s.Stack++[s.At])):=by unfold zai;rw [h];rfl
theorem ex19 {x:zB} (h:x.Op=19):zai s x=if s.Stack.length=0 then .ok (s.At,updT s 1)else .ok (s.Stack.getD (s.Stack.length-1) 0+1,updK s (s.Stack.take (s.Stack.length-1))):=by unfold zai;rw [h];rfl
theorem ex20 {x:zB} (h:x.Op=20):zai s x=if inB (zfq (rg s x.R)) 100 999=true then .error (zfq (rg s x.R))else .error 2:=by unfold zai;rw [h];rfl
theorem ex21 {x:zB} (h:x.Op=21):zai s x= .ok (s.At+1,updR s x.R ⟨s.Exception,0⟩):=by unfold zai;rw [h];rfl
theorem ex22 {x:zB} (h:x.Op=22):zai s x=zlc s (zrj (rg s x.R)):=by unfold zai;rw [h];rfl
theorem ex23 {x:zB} (h:x.Op=23):zai s x=match ziu s.Storage x.Place x.zF with| .error e=> .error e| .ok b=>zlc s b:=by unfold zai;rw [h];rfl
theorem ex24 {x:zB} (h:x.Op=24):zai s x=zlc s x.Text:=by unfold zai;rw [h];rfl
theorem ex25 {x:zB} (h:x.Op=25):zai s x=if s.Marks=300 then .ok (s.At+1,updT s 3)else .ok (s.At+1,updM s (s.Marks+1)):=by unfold zai;rw [h];rfl
theorem ex26 {x:zB} (h:x.Op=26):zai s x= .ok (s.At+1,updT s 1):=by unfold zai;rw [h];rfl
theorem znp {l:ByteArray} {n:Int} (h:zlc s l= .ok (n,t)):n=s.At+1∧t.Registers=s.Registers∧t.Storage=s.Storage∧t.Stack=s.Stack:=by
 unfold zlc at h
 split at h<;>cases h<;>exact⟨rfl,rfl,rfl,rfl⟩
theorem zade {x:zB} (hop:0≤x.Op∧x.Op≤26) (h0:x.Op≠0) (h4:x.Op≠4) (h2:¬(x.Op=2∨x.Op=21)) (h3:x.Op≠3) (h1:¬(x.Op=1∨x.Op=9∨x.Op=10)) (h14:¬(x.Op=14∨x.Op=15∨x.Op=16)) {n:Int} (h:zai s x= .ok (n,t)):t.Registers=s.Registers∧t.Storage=s.Storage:=by
 rcases(by omega:x.Op=5∨x.Op=6∨x.Op=7∨x.Op=8∨x.Op=11∨x.Op=12∨x.Op=13∨x.Op=17∨x.Op=18∨x.Op=19∨x.Op=20∨x.Op=22∨x.Op=23∨x.Op=24∨x.Op=25∨x.Op=26)with e|e|e|e|e|e|e|e|e|e|e|e|e|e|e|e
 · rw [ex5 e]at h;cases h;exact⟨rfl,rfl⟩
 · rw [ex6 e]at h;cases h;exact⟨rfl,rfl⟩
 · rw [ex7 e]at h;cases h;exact⟨rfl,rfl⟩
 · rw [ex8 e]at h;cases h;exact⟨rfl,rfl⟩
 · rw [ex11 e]at h;split at h
   · cases h
   · split at h<;>cases h;exact⟨rfl,rfl⟩
 · rw [ex12 e]at h;split at h<;>cases h;exact⟨rfl,rfl⟩
 · rw [ex13 e]at h;cases h;exact⟨rfl,rfl⟩
 · rw [ex17 e]at h;split at h<;>cases h;exact⟨rfl,rfl⟩
 · rw [ex18 e]at h;split at h<;>cases h;exact⟨rfl,rfl⟩
 · rw [ex19 e]at h;split at h<;>cases h<;>exact⟨rfl,rfl⟩
 · rw [ex20 e]at h;split at h<;>cases h
 · rw [ex22 e]at h;have:=znp h;exact⟨this.2.1,this.2.2.1⟩
 · rw [ex23 e]at h;split at h
   · cases h
   · have:=znp h;exact⟨this.2.1,this.2.2.1⟩
 · rw [ex24 e]at h;have:=znp h;exact⟨this.2.1,this.2.2.1⟩
 · rw [ex25 e]at h;split at h<;>cases h<;>exact⟨rfl,rfl⟩
 · rw [ex26 e]at h;cases h;exact⟨rfl,rfl⟩
theorem zaez {s:Storage} {p:zN} {t:DataType} {n:Number} (h:zq7 s p t= .ok n):∃a,zfp s p (szE t)= .ok a∧n.Scale=t.Scale∧zj4 t (s.Bytes.extract a.toNat (a+szE t).toNat)=some n.N:=by
 unfold zq7 ziu at h
 cases ha:zfp s p (szE t)with
 | error e=>rw [ha]at h;cases h
 | ok a=>
  rw [ha]at h;simp only at h;cases hd:zj4 t (s.Bytes.extract a.toNat (a+szE t).toNat)with
  | none=>rw [hd]at h;cases h
  | some k=>rw [hd]at h;cases h;exact⟨a,rfl,rfl,hd⟩
theorem ztj {s:Storage} {p:zN} {n:Int} (h:p.Based=false):zfp s p n= .ok p.Offset:=by
 unfold zfp
 rw [ifn (by rw [h];decide)]
theorem z3l {a b:Int} {f:zD} (ha:0≤a) (ha2:a≤2000) (hb:0≤b) (hb2:b≤2000) (hs:0<szE f.zF∧szE f.zF≤256) (ho:f.Offset= -1∨(0≤f.Offset∧f.Offset≤2000)) (h:apB a b f=false):f.Offset= -1∨a+b≤f.Offset∨f.Offset+szE f.zF≤a:=by
 unfold apB at h
 rw [w6e (n:=a+b),w6e (n:=f.Offset+szE f.zF)]at h
 simp only [Bool.and_eq_false_iff,decide_eq_false_iff_not,bne_eq_false_iff_eq]at h
 omega
variable {m:zJ} {c:zH} {s t:zC}
theorem zry {s:Storage} (h:zi1 s) {p:zN} {n:Int} (hp:zcn s p n=true) {a:Int} (ha:zfp s p n= .ok a):0≤a∧a+n≤(s.Bytes.size:Int):=by
 unfold zcn at hp
 unfold zfp at ha
 by_cases hb:p.Based=true
 · rw [ifp hb]at hp ha;rw [Bool.and_eq_true]at hp;have hp3:=zaq.1 hp.2;cases hl:ldV s p.Pointer with
   | none=>rw [hl]at ha;cases ha
   | some o=>
    have ho:=zs6 h hl;rw [hl]at ha;simp only at ha;split at ha
    · cases ha
    · cases ha;omega
 · rw [ifn hb]at hp ha;have hp3:=zaq.1 hp;cases ha;omega
theorem zun {f:zD} (h:FctV m c f):(0<szE f.zF∧szE f.zF≤256)∧zij f.zF:=⟨zh3 h.ty,z2e h.ty h.kd.1 h.kd.2⟩
theorem zvy {f:zD} (hv:FctV m c f) (hs:s.Storage.Bytes.size=c.Storage.Bytes.size) (h:zkf s f) {a:Nat} {d:ByteArray} (hd:a+d.size≤s.Storage.Bytes.size) {T:Storage} (hT:T.Bytes=(wrV s.Storage a d).Bytes)
 (ho:f.Offset= -1∨(a:Int)+(d.size:Int)≤f.Offset∨f.Offset+szE f.zF≤(a:Int)):zkf (updS s T) f:=by
 have hz:=(zun hv).1
 refine h.keep rfl ?_
 rcases hv.of with h1|h1
 · exact .inl h1
 · right;show T.Bytes.extract _ _=_;rw [hT];exact zab5 hd (by omega) (by omega)
theorem zadp (hc:CodeV m c) (hs:StV m c s) {x:zB} (hx:x∈c.zA) {l:List zD} (hl:∀f∈l,FctV m c f∧zkf s f) {n:Int} (h:zai s x= .ok (n,t)) {f:zD} (hf:Beh x l f):zkf t f:=by
 have ix:=z9d (hc.ins x hx)
 have hz:=hs.size
 have hle:=hs.sto.le
 have regs:=hs.regs
 have keepR:∀{g:zD} {k:Number},g∈l→g.Register≠x.R→0≤x.R→zkf (updR s x.R k) g:=fun {g k} hg hne h0=>(hl g hg).2.keep (zai1 k h0 (hl g hg).1.r.1 hne) (.inr rfl)
 unfold Beh at hf
 split at hf
 · rename_i hop;have hr:=ix.r (by omega);have hT:=z2e (ix.ty (by omega)) (ix.kd (by omega)).1 (ix.kd (by omega)).2;have iv:=zf1 hc hx hop (U:=⟨true,false,false,true,false,false,false,false,false,false,false,false,false,false,1,0⟩) rfl;have hpl:=iv.pl rfl;rw [show zdp x=x.zF by unfold zdp;rw [ifn],←ze5 hz]at hpl;rw [ex0 hop]at h;cases hn:zq7 s.Storage x.Place x.zF with
   | error e=>rw [hn]at h;cases h
   | ok k=>
    rw [hn]at h;cases h;obtain⟨a,ha,hsc,hd⟩:=zaez hn;have har:=zry hs.sto hpl ha;have hsz:=zh3 hT.1;have hbs:((s.Storage.Bytes.extract a.toNat (a+szE x.zF).toNat).size:Int)=szE x.zF:=by rw [ByteArray.size_extract];omega
    have hfit:=z6d hT hbs hd;have hk:rg (updR s x.R k) x.R=k:=z8w k (by omega);have about:∀(g:zD),(k.Scale=g.zF.Scale∧znq g.zF k.N∧(g.Offset= -1∨zj4 g.zF (s.Storage.Bytes.extract g.Offset.toNat (g.Offset+szE g.zF).toNat)=some k.N))→zkf (updR s x.R k) ⟨x.R,g.zF,g.Offset⟩:=fun g hg=>by
     refine⟨?_,?_,?_⟩
     · show(rg (updR s x.R k) x.R).Scale=_;rw [hk];exact hg.1
     · show znq g.zF (rg (updR s x.R k) x.R).N;rw [hk];exact hg.2.1
     · show g.Offset= -1∨zj4 g.zF (s.Storage.Bytes.extract g.Offset.toNat (g.Offset+szE g.zF).toNat)=some (rg (updR s x.R k) x.R).N;rw [hk];exact hg.2.2
    rcases hf with⟨h1,h2⟩|h1|⟨hb,h1|⟨g',hg',ht',ho',g,hg,hgr,h1⟩⟩
    · exact keepR h1 h2 hr.1
    · subst h1;exact about ⟨x.R,x.zF,-1⟩ ⟨hsc,hfit,.inl rfl⟩
    · subst h1;rw [ztj hb]at ha;cases ha;exact about ⟨x.R,x.zF,x.Place.Offset⟩ ⟨hsc,hfit,.inr hd⟩
    · subst h1;rw [ztj hb]at ha;cases ha;have hp0:=ix.pl (by omega) hb;obtain⟨v1,q1⟩:=hl g' hg';obtain⟨v2,q2⟩:=hl g hg;have e1:=q1.mem;rw [ho',ht']at e1;have e2:some k.N=some (rg s g'.Register).N:=by
       rcases e1 with e1|e1
       · omega
       · rw [←hd,←e1]
      have e3:rg s g'.Register=k:=by
       have e4:(rg s g'.Register).N=k.N:=(Option.some.inj e2).symm;have e5:(rg s g'.Register).Scale=k.Scale:=by rw [q1.sc,ht',hsc]
       cases hq:rg s g'.Register with
       | mk a b=>
        cases k with
        | mk a' b'=>
         rw [hq]at e4 e5;simp only at e4 e5;rw [e4,e5]
      have e6:rg s g.Register=k:=by rw [hgr];exact e3
      refine about g ⟨?_,?_,?_⟩
      · rw [←e6];exact q2.sc
      · rw [←e6];exact q2.ft
      · rw [←e6];exact q2.mem
 · rename_i h0;split at hf
   · rename_i hop;have hr:=ix.r (by omega);rw [ex4 hop]at h;split at h
     · cases h
     · rename_i b hb;split at h
       · cases h
       · split at h
         · cases h
         · rename_i h20 hz0;cases h;have hfit:=zabw (Decidable.not_not.1 hz0);rcases hf with⟨h1,h2⟩|h1
           · exact keepR h1 h2 hr.1
           · subst h1;have hk:rg (updR s x.R ⟨(zfo x.zM (rg s x.A) b x.zF false).1.N,x.zF.Scale⟩) x.R=⟨(zfo x.zM (rg s x.A) b x.zF false).1.N,x.zF.Scale⟩:=z8w _ (by omega);refine⟨?_,?_,.inl rfl⟩
             · show(rg _ x.R).Scale=_;rw [hk]
             · show znq _ (rg _ x.R).N;rw [hk];exact hfit
   · rename_i h4;split at hf
     · rename_i hop;have hr:=ix.r (by omega);rcases hop with hop|hop
       · rw [ex2 hop]at h;cases h;exact keepR hf.1 hf.2 hr.1
       · rw [ex21 hop]at h;cases h;exact keepR hf.1 hf.2 hr.1
     · rename_i h2;split at hf
       · rename_i hop;have hr:=ix.r (by omega);rw [ex3 hop]at h;cases h;rcases hf with⟨h1,h2⟩|⟨g,hg,hgr,h1⟩
         · exact keepR h1 h2 hr.1
         · subst h1;have q:=(hl g hg).2;rw [←hgr];have hk:rg (updR s x.R (rg s g.Register)) x.R=rg s g.Register:=z8w _ (by omega);refine⟨?_,?_,?_⟩
           · show(rg _ x.R).Scale=_;rw [hk];exact q.sc
           · show znq _ (rg _ x.R).N;rw [hk];exact q.ft
           · show g.Offset= -1∨zj4 g.zF (s.Storage.Bytes.extract g.Offset.toNat (g.Offset+szE g.zF).toNat)=some (rg (updR s x.R (rg s g.Register)) x.R).N;rw [hk];exact q.mem
       · rename_i h3;split at hf
         · rename_i hop;have hty:=ix.ty (by omega);have hsz:=zh3 hty;have wr:∀(a:Int) (d:ByteArray),zfp s.Storage x.Place (szE x.zF)= .ok a→(d.size:Int)=szE x.zF→a.toNat+d.size≤s.Storage.Bytes.size→t=updS s (wrV s.Storage a.toNat d)→(x.Place.Based=false→0≤a)→
            ((x.Place.Based=true∧f∈l∧f.Offset= -1)∨(x.Place.Based=false∧f∈l∧apB x.Place.Offset (szE x.zF) f=false))→zkf t f:=by
            intro a d ha hd hin ht ha0 hq;subst ht;rcases hq with⟨_,hm,ho⟩|⟨hb,hm,hap⟩
            · exact zvy (hl f hm).1 hz (hl f hm).2 hin rfl (.inl ho)
            · rw [ztj hb]at ha;cases ha;have hv:=(hl f hm).1;have hp0:=ix.pl (by omega) hb;have:=z3l hp0.1 (by omega) (by omega) (by omega) (zun hv).1 (by have:=hv.of;have:=(zun hv).1;omega) hap;exact zvy hv hz (hl f hm).2 hin rfl (by omega)
           rcases hop with hop|hop|hop
           · have iv:=zf1 hc hx hop (U:=⟨true,false,false,true,false,true,false,false,false,false,false,false,false,false,1,0⟩) rfl;have hpl:=iv.pl rfl;rw [show zdp x=x.zF by unfold zdp;rw [ifn],←ze5 hz]at hpl;have hT:=z2e hty (ix.kd (by omega)).1 (ix.kd (by omega)).2;rw [ex1 hop]at h;split at h
             · cases h
             · rename_i hcv;cases ha:zfp s.Storage x.Place (szE x.zF)with
               | error e=>rw [ha]at h;cases h
               | ok a=>
                rw [ha]at h;cases h;have har:=zry hs.sto hpl ha;have hd:=z3d hT (zif (rg s x.R) x.zF x.Half).1.N;rcases hf with hf|⟨hb,hf|⟨_,hm,hf⟩⟩
                · exact wr a _ ha hd (by omega) rfl (fun _=>har.1) (.inl hf)
                · exact wr a _ ha hd (by omega) rfl (fun _=>har.1) (.inr ⟨hb,hf⟩)
                · subst hf;rw [ztj hb]at ha;cases ha;have q:=(hl _ hm).2;have hcs:=zabs (zgb hT).2.1 q.sc q.ft x.Half;have hcs:zif (rg s x.R) x.zF x.Half=(⟨(rg s x.R).N,⟨#[]⟩⟩,0):=hcs;refine⟨q.sc,q.ft,.inr ?_⟩;show zj4 x.zF ((wrV s.Storage x.Place.Offset.toNat (zn0 x.zF (zif (rg s x.R) x.zF x.Half).1.N)).Bytes.extract x.Place.Offset.toNat (x.Place.Offset+szE x.zF).toNat)=some (rg s x.R).N;rw [show(x.Place.Offset+szE x.zF).toNat=x.Place.Offset.toNat+(zn0 x.zF (zif (rg s x.R) x.zF x.Half).1.N).size by omega,zaf9 (by omega),hcs];exact zafj hT q.ft
           · have iv:=zf1 hc hx hop (U:=⟨false,false,false,true,true,false,false,false,false,false,false,false,false,false,2,2⟩) rfl;have hpl:=iv.pl rfl;rw [show zdp x=x.zF by unfold zdp;rw [ifn],←ze5 hz]at hpl;have h20:=(iv.ty2 rfl).2;rw [ex9 hop]at h;split at h
             · cases h
             · cases ha:zfp s.Storage x.Place (szE x.zF)with
               | error e=>rw [ha]at h;cases h
               | ok a=>
                rw [ha]at h;cases h;have har:=zry hs.sto hpl ha;have hd:∀b:ByteArray,((zkc b x.zF.Length.toNat).size:Int)=szE x.zF:=fun b=>by
                 rw [zxh];have:szE x.zF=x.zF.Length:=by unfold szE;rw [ifn,ifn,ifn]
                 omega
                rcases hf with hf|⟨hb,hf|⟨h1,_⟩⟩
                · exact wr a _ ha (hd _) (by have:=hd (by assumption);omega) rfl (fun _=>har.1) (.inl hf)
                · exact wr a _ ha (hd _) (by have:=hd (by assumption);omega) rfl (fun _=>har.1) (.inr ⟨hb,hf⟩)
                · omega
           · have iv:=zf1 hc hx hop (U:=⟨false,false,false,true,false,false,false,false,false,false,true,false,false,false,2,0⟩) rfl;have hpl:=iv.pl rfl;rw [show zdp x=x.zF by unfold zdp;rw [ifn],←ze5 hz]at hpl;have h20:=(iv.ty2 rfl).2;rw [ex10 hop]at h;cases ha:zfp s.Storage x.Place (szE x.zF)with
             | error e=>rw [ha]at h;cases h
             | ok a=>
              rw [ha]at h;cases h;have har:=zry hs.sto hpl ha;have hd:((zkc x.Text x.zF.Length.toNat).size:Int)=szE x.zF:=by
               rw [zxh];have:szE x.zF=x.zF.Length:=by unfold szE;rw [ifn,ifn,ifn]
               omega
              rcases hf with hf|⟨hb,hf|⟨h1,_⟩⟩
              · exact wr a _ ha hd (by omega) rfl (fun _=>har.1) (.inl hf)
              · exact wr a _ ha hd (by omega) rfl (fun _=>har.1) (.inr ⟨hb,hf⟩)
              · omega
         · rename_i h1;split at hf
           · rename_i hop;have hpt:=ix.pt hop;have hv:=(hl f hf.1).1;have st:∀(o:Nat),zkf (updS s (stV s.Storage x.Pointer.toNat o)) f:=by
              intro o;have hq:zev c.Storage x.Pointer=true:=by
               rcases hop with hop|hop|hop
               · exact(zf1 hc hx hop (U:=⟨false,false,false,true,false,false,false,false,false,false,false,false,true,false,3,0⟩) rfl).pt rfl
               · exact(zf1 hc hx hop (U:=⟨false,false,false,false,false,false,false,false,false,false,false,false,true,true,0,0⟩) rfl).pt rfl
               · exact(zf1 hc hx hop (U:=⟨true,false,false,false,false,false,false,false,false,false,false,false,true,false,0,0⟩) rfl).pt rfl
              have hq2:=zmh hq;have h16:=hs.sto.quad;have hps:=zm7 o;have:=z3l hpt.1 (by omega) (show(0:Int)≤16 by decide) (by decide) (zun hv).1 (by have:=hv.of;have:=(zun hv).1;omega) hf.2;exact zvy hv hz (hl f hf.1).2 (a:=x.Pointer.toNat) (d:=pbV o) (by omega) rfl (by omega)
             rcases hop with hop|hop|hop
             · rw [ex14 hop]at h;split at h<;>cases h;exact st _
             · rw [ex15 hop]at h;split at h<;>cases h;exact st _
             · rw [ex16 hop]at h;split at h
               · cases h
               · split at h<;>cases h;exact st _
           · rename_i h14;obtain⟨k1,k2⟩:=zade ix.op h0 h4 h2 h3 h1 h14 h;exact(hl f hf).2.same k1 k2
variable {m:zJ} {c:zH} {s t:zC}
theorem zabj {x:zB} (hop:0≤x.Op∧x.Op≤26) {n:Int} (h:zai s x= .ok (n,t)) (h0:t.Status=0) (hs0:s.Status=0):(n=s.At+1∧zph x.Op=true)∨(zld x.Op=true∧n=x.Target)∨(x.Op=19∧∃i∈s.Stack,n=i+1):=by
 have on:∀k:Int,x.Op=k→zph k=true→zph x.Op=true:=fun k e h=>by rw [e];exact h
 have jm:∀k:Int,x.Op=k→zld k=true→zld x.Op=true:=fun k e h=>by rw [e];exact h
 rcases(by omega:x.Op=0∨x.Op=1∨x.Op=2∨x.Op=3∨x.Op=4∨x.Op=5∨x.Op=6∨x.Op=7∨x.Op=8∨x.Op=9∨x.Op=10∨x.Op=11∨x.Op=12∨x.Op=13∨x.Op=14∨x.Op=15∨x.Op=16∨x.Op=17∨x.Op=18∨x.Op=19∨x.Op=20∨x.Op=21∨x.Op=22∨x.Op=23∨x.Op=24∨x.Op=25∨x.Op=26)with e|e|e|e|e|e|e|e|e|e|e|e|e|e|e|e|e|e|e|e|e|e|e|e|e|e|e
 · rw [ex0 e]at h;split at h<;>cases h;exact .inl ⟨rfl,on _ e rfl⟩
 · rw [ex1 e]at h;split at h
   · cases h
   · split at h<;>cases h;exact .inl ⟨rfl,on _ e rfl⟩
 · rw [ex2 e]at h;cases h;exact .inl ⟨rfl,on _ e rfl⟩
 · rw [ex3 e]at h;cases h;exact .inl ⟨rfl,on _ e rfl⟩
 · rw [ex4 e]at h;split at h
   · cases h
   · split at h
     · cases h
     · split at h<;>cases h;exact .inl ⟨rfl,on _ e rfl⟩
 · rw [ex5 e]at h;cases h;exact .inl ⟨rfl,on _ e rfl⟩
 · rw [ex6 e]at h;cases h;cases hb:(zj .i64 s.Condition x.Mask !=0)with
   | true=>exact .inr (.inl ⟨jm _ e rfl,rfl⟩)
   | false=>exact .inl ⟨rfl,on _ e rfl⟩
 · rw [ex7 e]at h;cases h;cases hb:(zj .i64 (zn1 s x.A x.B) x.Mask !=0)with
   | true=>exact .inr (.inl ⟨jm _ e rfl,rfl⟩)
   | false=>exact .inl ⟨rfl,on _ e rfl⟩
 · rw [ex8 e]at h;cases h;exact .inr (.inl ⟨jm _ e rfl,rfl⟩)
 · rw [ex9 e]at h;split at h
   · cases h
   · split at h<;>cases h;exact .inl ⟨rfl,on _ e rfl⟩
 · rw [ex10 e]at h;split at h<;>cases h;exact .inl ⟨rfl,on _ e rfl⟩
 · rw [ex11 e]at h;split at h
   · cases h
   · split at h<;>cases h;exact .inl ⟨rfl,on _ e rfl⟩
 · rw [ex12 e]at h;split at h<;>cases h;exact .inl ⟨rfl,on _ e rfl⟩
 · rw [ex13 e]at h;cases h;exact .inl ⟨rfl,on _ e rfl⟩
 · rw [ex14 e]at h;split at h<;>cases h;exact .inl ⟨rfl,on _ e rfl⟩
 · rw [ex15 e]at h;split at h<;>cases h;exact .inl ⟨rfl,on _ e rfl⟩
 · rw [ex16 e]at h;split at h
   · cases h
   · split at h<;>cases h;exact .inl ⟨rfl,on _ e rfl⟩
 · rw [ex17 e]at h;split at h<;>cases h;exact .inl ⟨rfl,on _ e rfl⟩
 · rw [ex18 e]at h;split at h<;>cases h;exact .inr (.inl ⟨jm _ e rfl,rfl⟩)
 · rw [ex19 e]at h;split at h
   · cases h;exact absurd h0 (by show ¬(1:Int)=0;decide)
   · rename_i hl;cases h;refine .inr (.inr ⟨e,_,?_,rfl⟩);have hx:s.Stack[s.Stack.length-1]?=some (s.Stack.getD (s.Stack.length-1) 0):=by rw [gdd,lge (by omega)];rfl
     exact lmg hx
 · rw [ex20 e]at h;split at h<;>cases h
 · rw [ex21 e]at h;cases h;exact .inl ⟨rfl,on _ e rfl⟩
 · rw [ex22 e]at h;exact .inl ⟨(znp h).1,on _ e rfl⟩
 · rw [ex23 e]at h;split at h
   · cases h
   · exact .inl ⟨(znp h).1,on _ e rfl⟩
 · rw [ex24 e]at h;exact .inl ⟨(znp h).1,on _ e rfl⟩
 · rw [ex25 e]at h;split at h<;>cases h<;>exact .inl ⟨rfl,on _ e rfl⟩
 · rw [ex26 e]at h;cases h;exact absurd h0 (by show ¬(1:Int)=0;decide)
structure FacV (m:zJ) (c:zH) (F:Nat→List zD):Prop where
 ent:∀k,k<c.zA.length→zk4 c k=true→F k=[]
 go:∀i k x,k<c.zA.length→c.zA[i]?=some x→(k:Int)∈zdt c i→∀f∈F k,Beh x (F i) f
 ok:∀k,k<c.zA.length→∀f∈F k,FctV m c f
theorem z29 {e:Int}:∀(k:Nat) (s:zC),s.Stack.length<k→s.Status=0→(zgt c e k s).Status=0→∃a,0≤zet c a e∧(zgt c e k s).At=zet c a e
 | 0,s,h,_,_=>by omega
 | k+1,s,h,h0,h1=>by
  unfold zgt at h1⊢;split at h1
  · rename_i hh;rw [ifp hh];exact⟨s.At,hh,rfl⟩
  · rename_i hh;rw [ifn hh];split at h1
    · exact absurd h1 (by show ¬(2:Int)=0;decide)
    · rename_i hl;rw [ifn hl];exact z29 k _ (by show(s.Stack.take (s.Stack.length-1)).length<k;rw [lnt];omega) h0 h1
theorem z7b {a e:Int} (h:0≤zet c a e):zk4 c (zet c a e).toNat=true:=by
 unfold zet at h⊢
 cases hi:zxo c a e with
 | none=>rw [hi]at h;simp at h
 | some i=>
  rw [hi]at h;obtain⟨t,ht,_⟩:=zxn hi;simp only at h⊢;rw [gdd,ht]at h⊢;simp only [Option.getD_some]at h⊢;unfold zk4 z5u;have:(c.zS.any fun u=>decide (u.Handler=((t.Handler.toNat:Nat):Int)))=true:=List.any_eq_true.2 ⟨t,lmg ht,by rw [decide_eq_true_eq];omega⟩;rw [this,Bool.or_true];rfl
theorem z7y {t:zC} (h:(zsk t).Status=0):zsk t=t∧t.Status=0:=by
 unfold zsk at h⊢
 split at h
 · exact absurd h (by show ¬(3:Int)=0;decide)
 · rename_i hn;rw [ifn hn];exact⟨rfl,h⟩
theorem z98 {F:Nat→List zD} (hc:CodeV m c) (hs:StV m c s) (h0:s.Status=0) (h3:s.Steps<3000) (hF:FacV m c F) (hT:∀f∈F s.At.toNat,zkf s f) (h1:(zqe c s).Status=0):∀f∈F (zqe c s).At.toNat,zkf (zqe c s) f:=by
 have a0:=hs.at0
 have a1:=hs.at1
 have p0:=hs.sp0
 have hx:c.zA[s.At.toNat]?=some (zl2 c s):=by
  unfold zl2;rw [gdd,lge (by omega)];rfl
 have hmem:=lmg hx
 have ix:=z9d (hc.ins _ hmem)
 have hs1:StV m c (updP s (s.Steps+1)):=hs.updP (by omega) (by omega)
 have hT1:∀f∈F s.At.toNat,FctV m c f∧zkf (updP s (s.Steps+1)) f:=fun f hf=>⟨hF.ok _ (by omega) f hf,(hT f hf).same rfl rfl⟩
 unfold zqe at h1⊢
 cases hE:zai (updP s (s.Steps+1)) (zl2 c s)with
 | error e=>
  rw [hE]at h1;simp only at h1⊢;obtain⟨q1,q2⟩:=z7y h1;rw [q1];obtain⟨a,k1,k2⟩:=z29 (s.Stack.length+1) (updE (updP s (s.Steps+1)) e) (Nat.lt_succ_self _) h0 q2;have hr:=(zuk hc a e).resolve_left (by omega);rw [k2,hF.ent _ (by omega) (z7b k1)];intro f hf;simp at hf
 | ok r=>
  obtain⟨n,t⟩:=r;rw [hE]at h1;simp only at h1⊢;split at h1
  · rename_i hne;exact absurd h1 hne
  · rename_i hst;rw [ifn hst];have hst:t.Status=0:=Decidable.not_not.1 hst;split at h1
    · exact absurd h1 (by show ¬(1:Int)=0;decide)
    · rename_i hnl;rw [ifn hnl];obtain⟨q1,q2⟩:=z7y h1;rw [q1];show∀f∈F n.toNat,zkf (updA t n) f;have behind:∀k:Nat,n=(k:Int)→k<c.zA.length→(k:Int)∈zdt c s.At.toNat→∀f∈F n.toNat,zkf (updA t n) f:=fun k hk hkl hsu f hf=>by
       subst hk;rw [itn]at hf;exact(zadp hc hs1 hmem hT1 hE (hF.go _ _ _ hkl hx hsu f hf)).same rfl rfl
      have hat:(updP s (s.Steps+1)).At=s.At:=rfl;have hsu:∀z:Int,z∈zdt c s.At.toNat↔(zph (zl2 c s).Op=true∧s.At.toNat+1<c.zA.length∧z=((s.At.toNat+1:Nat):Int))∨(zld (zl2 c s).Op=true∧z=(zl2 c s).Target):=fun z=>by
       unfold zdt;rw [hx];simp only;rw [List.mem_append];cases zph (zl2 c s).Op<;>cases zld (zl2 c s).Op<;>by_cases hl:s.At.toNat+1<c.zA.length<;>simp [hl]<;>omega
      rcases zabj ix.op hE hst h0 with⟨k1,k2⟩|⟨k1,k2⟩|⟨k1,i,k2,k3⟩
      · exact behind (s.At.toNat+1) (by omega) (by omega) ((hsu _).2 (.inl ⟨k2,by omega,rfl⟩))
      · have htg:=ix.tg (by unfold zld at k1;simp only [Bool.or_eq_true,decide_eq_true_eq]at k1;omega);exact behind (zl2 c s).Target.toNat (by omega) (by omega) ((hsu _).2 (.inr ⟨k1,by omega⟩))
      · obtain⟨r1,y,r2,r3⟩:=hs.calls i k2;have:F n.toNat=[]:=hF.ent _ (by omega) (by
         rw [k3,show(i+1).toNat=i.toNat+1 by omega];unfold zk4;rw [zxy,r2];simp [r3])
        rw [this];intro f hf;simp at hf
variable {x:Optimization} {F:List (List zD)}
variable {m:zJ} {c:zH} {x:Optimization} {F:List (List zD)}
theorem zahd (hF:FsV m c F) (h:∀k,k<c.zA.length→z6h c F k=false):FacV m c (zlh F):=by
 refine⟨fun k hk he=> ?_,fun i k x hk hx hs f hf=> ?_,fun k hk f hf=> ?_⟩
 · have:=h k hk;unfold z6h at this;rw [Bool.or_eq_false_iff]at this;have h1:=this.1;unfold ownB at h1;rw [he,Bool.true_and,decide_eq_false_iff_not]at h1;exact List.length_eq_zero_iff.1 (by omega)
 · have:=h k hk;unfold z6h at this;rw [Bool.or_eq_false_iff]at this;have hi:=(gei hx).1;have h2:=List.any_eq_false.1 this.2 i (by simpa using hi);unfold badE z9a at h2;rw [List.contains_iff_mem.2 hs,Bool.true_and]at h2;simp only [List.any_eq_true,Bool.not_eq_true',not_exists,not_and,Bool.not_eq_false]at h2;have h3:=zm8.1 (h2 f hf);unfold z3y at h3;have hiF:i<F.length:=by rw [hF.len];exact hi
   have hl:=lge hiF;rw [hx,hl]at h3;have e:zlh F i=F[i]:=by unfold zlh;rw [hl];rfl
   rw [e];exact zyo.1 h3
 · unfold zlh at hf;have hl:=lge (show k<F.length by rw [hF.len];exact hk);rw [hl]at hf;exact(hF.v _ (List.getElem_mem _)).2 f hf
variable {m:zJ} {c:zH} {x:Optimization} {s t:zC} {I:List Int}
variable {m:zJ} {c:zH} {x:Optimization} {s t:zC} {I:List Int}
variable {m:zJ} {c:zH} {x:Optimization} {s t:zC} {I:List Int}
variable {m:zJ} {c:zH}
theorem zagz (N:Nat) (F:List (List zD)) (h:F.length<N) (hl:F.length<1000000000):zce N F=some (F.any fun l=>decide (60<l.length)):=by
 unfold zce zab
 have:=z15 (f:=zab.r0 N) F (fun l=>decide (60<l.length)) (fun i=>(F,(F.length:Int),(i:Int))) (fun i y hy=>by
  have hi:=(gei hy).1;simp only [zab.r0,zab.b0,zhd,zau,hy,obs,dct (show(i:Int)<(F.length:Int)by omega),ctr];rw [w6e]
  by_cases h:60<y.length
  · rw [dct (show(y.length:Int)>60 by omega),dct h];rfl
  · rw [dcf (show ¬(y.length:Int)>60 by omega),dcf h];rfl)
  (by simp only [zab.r0,zab.b0,dcf (show ¬(F.length:Int)<(F.length:Int)by omega),cfa]) h
 simp only [nc0]at this
 rw [this]
 have e:=zy8 F (fun l=>decide (60<l.length))
 cases hf:F.findIdx? (fun l=>decide (60<l.length))with
 | none=>rw [hf]at e;rw [←e];simp [zbu]
 | some k=>rw [hf]at e;rw [←e];simp [zbu]
theorem zakl (F:List (List zD)):(F.any fun l=>decide (60<l.length))= !(F.all fun l=>decide (l.length≤60)):=by
 rw [List.not_all_eq_any_not]
 congr 1
 funext l
 by_cases h:60<l.length
 · rw [dct h,dcf (by omega)];rfl
 · rw [dcf h,dct (by omega)];rfl
theorem z96 (N:Nat) (hN:1048600<N) (m:zJ) {c:zH} (hc:Wft En 1048576 Ty.zH c):∃n e,zp N m c=some (n,e)∧zac N m c=some (n,e)∧
 (e≠0→zd4 N m c=some ([],e))∧(e=0→CdV m c∧∃G:Nat→List zD,zd4 N m c=some (if((List.range c.zA.length).map G).all (fun l=>decide (l.length≤60))=true then((List.range c.zA.length).map G,0)else([],2))∧
  (∀k,zpo (G k)∧(G k).length≤3840∧∀f∈G k,FctV m c f)∧∃R D,(∀k,k<c.zA.length→(R k=true↔Rch c k))∧Inv m c R D G∧Cl c R D G):=by
 obtain⟨⟨n,e⟩,h1,h2⟩:=zabt N hN m hc
 refine⟨n,e,h1,h2,fun he=> ?_,fun he=> ?_⟩
 · unfold zd4 zhk;rw [h1,obs,obs,show(e !=0)=true by simpa using he];rfl
 · subst he;obtain⟨hcv,_⟩:=zahx N hN hc h2;have hil:=hcv.len;obtain⟨p,p1,p2,p3⟩:=zaca N hN hcv;obtain⟨D,G,g1,g2,g3⟩:=zacc N hN hcv p2 p1;refine⟨hcv,G,?_,fun k=>⟨g2.so k,z2h hcv g2 k,g2.ok k⟩,p,D,fun k hk=>⟨p2 k hk,p3 k⟩,g2,g3⟩;unfold zd4 zhk;rw [h1,obs,obs,bsf,cfa,g1,obs,zagz N _ (by simp;omega) (by simp;omega),obs,zakl];cases((List.range c.zA.length).map G).all fun l=>decide (l.length≤60)<;>rfl
variable {m:zJ} {c:zH} {s t:zC}
theorem zae4 (N:Nat) (hN:100<N) {t:DataType} (ht:zij t):zf9 N t=some (((10^t.Length.toNat:Nat):Int)-1):=by
 obtain⟨⟨l1,l2⟩,_,_⟩:=zgb ht
 have hp2:10^t.Length.toNat≤10^15:=zdj (by omega)
 have hp0:=zee t.Length.toNat
 unfold zf9
 have e:=zzt N hN t.Length.toNat (by omega)
 rw [Int.toNat_of_nonneg (by omega)]at e
 rw [e,obs,w6e]
theorem z9z (N:Nat) (hN:3000<N) (hc:CodeV m c) (hs:StV m c s) {G:Nat→List zD} {F:List (List zD)} {j:Int} {f:zD} {l:List zD} (hl:idx F s.At=some l) {k:Nat} (hk:l[k]?=some f) (hkl:l.length≤100000) (hv:FctV m c f) (ht:zkf s f):
 zu.r2 N (F,j,(k:Int),m,c,s)=some (.again (F,j,((k+1:Nat):Int),m,c,s)):=by
 have hkl2:=(gei hk).1
 obtain⟨hsz,hT⟩:=zun hv
 obtain⟨r1,r2,r3,r4,r5⟩:=zgh hs hv.r
 have m1:=hc.m1
 have m2:=hc.m2
 have hz:=hs.size
 have hle:=hs.sto.le
 have hof:=hv.of
 have hft:=ht.ft
 have hp2:10^f.zF.Length.toNat≤10^15:=zdj (by have:=(zgb hT).1;omega)
 have hp0:=zee f.zF.Length.toNat
 unfold znq at hft
 simp only [zu.r2,zu.b2]
 rw [hl]
 simp only [obs]
 rw [dct (show(k:Int)<(l.length:Int)by omega),ctr,zau,hk]
 simp only [obs]
 rw [w6e (n:=m.Registers-1),zg2,show inB f.Register 0 (m.Registers-1)=true from zaq.2 (by have:=hv.r;omega),obs,zyc,hv.ty,obs]
 unfold zb4
 rw [zg2,show inB f.zF.Kind 1 3=true from zaq.2 hT.2]
 simp only [obs,bnt,cfa,bsf]
 rw [r4]
 simp only [obs]
 rw [zae4 N (by omega) hT]
 simp only [obs]
 rw [ht.sc,zg2,w6e (n:=0-(((10^f.zF.Length.toNat:Nat):Int)-1)),show inB (rg s f.Register).N (0-(((10^f.zF.Length.toNat:Nat):Int)-1)) (((10^f.zF.Length.toNat:Nat):Int)-1)=true from zaq.2 (by omega)]
 simp only [obs,bnt,cfa,bsf]
 rw [w6e (n:=(k:Int)+1),zbc]
 by_cases ho:f.Offset= -1
 · rw [dct ho];rfl
 · have hof:0≤f.Offset∧f.Offset+szE f.zF≤(c.Storage.Bytes.size:Int):=hof.resolve_left ho;have hd:=ht.mem.resolve_left ho;rw [dcf ho,cfa,zjk hv.ty];simp only [obs];rw [w6e (n:=(s.Storage.Bytes.size:Int)-szE f.zF),w6e (n:=f.Offset+szE f.zF),zg2,show inB f.Offset 0 ((s.Storage.Bytes.size:Int)-szE f.zF)=true from zaq.2 (by omega)];simp only [obs,bnt,cfa];rw [ifp (show 0≤f.Offset+szE f.zF∧f.Offset+szE f.zF≤(s.Storage.Bytes.size:Int)by omega),ifp (show 0≤f.Offset∧f.Offset≤f.Offset+szE f.zF by omega)];have hbs:((s.Storage.Bytes.extract f.Offset.toNat (f.Offset+szE f.zF).toNat).size:Int)=szE f.zF:=by rw [ByteArray.size_extract];omega
   obtain⟨v,a,e,q1,q2⟩:=zw8 N (by omega) hT hbs;rw [hd]at q2;obtain⟨q2,q3⟩:=q2;rw [q1];simp only [obs];rw [q3,q2];simp only [bsf,cfa,obs];rfl
theorem z9y (N:Nat) (hN:200000<N) (hc:CodeV m c) (hs:StV m c s) {F:List (List zD)} {j:Int} {l:List zD} (hl:idx F s.At=some l) (hkl:l.length≤100000) (hf:∀f∈l,FctV m c f∧zkf s f):
 zo (zu.r2 N) N (F,j,0,m,c,s)=some (.inr (F,j,(l.length:Int),m,c,s)):=by
 have:=zd5 (f:=zu.r2 N) (fun i=>(F,j,(i:Int),m,c,s)) (fun _=>(none:Option Bool)) l.length (fun i hi=>by
  have hx:=lge hi;obtain⟨h1,h2⟩:=hf _ (List.getElem_mem hi);exact z9z N (by omega) (G:=fun _=>[]) hc hs hl hx hkl h1 h2)
  (by
   simp only [zu.r2,zu.b2];rw [hl];simp only [obs];rw [dcf (Int.lt_irrefl _),cfa]) (show l.length<N by omega)
 simp only [nc0]at this
 rw [this]
 have e:(List.range l.length).findSome? (fun _=>(none:Option Bool))=none:=by simp
 rw [e]
theorem z2w (N:Nat) (hN:200000<N) (hc:CodeV m c) {G:Nat→List zD} (hG:FacV m c G) (hgl:∀k,(G k).length≤100000):∀(k:Nat) (i:Nat) (s:zC) (K:Nat),i+k=200→k<K→StV m c s→(s.Status=0→s.Steps<3000)→(s.Status=0→∀f∈G s.At.toNat,zkf s f)→
 ∃y,zo (zu.r0 N) K ((List.range c.zA.length).map G,(i:Int),m,c,s)=some (.inr y)
 | k,i,s,0,_,hK,_,_,_=>by omega
 | k,i,s,K+1,hik,hK,hs,hr,hT=>by
  simp only [zo,zu.r0,zu.b0];rw [zbc]
  by_cases hi:i<200
  · rw [dct (show(i:Int)<200 by omega),ctr]
    by_cases h0:s.Status=0
    · rw [dct h0];simp only [obs,ctr];have a0:=hs.at0;have a1:=hs.at1;have hat:idx ((List.range c.zA.length).map G) s.At=some (G s.At.toNat):=by
       unfold idx;rw [ifp a0];exact zr2 _ (by omega)
      rw [z9y N hN hc hs hat (hgl _) fun f hf=>⟨hG.ok _ (by omega) f hf,hT h0 f hf⟩];simp only [obs,zbu];have h3:=hr h0;obtain⟨g1,g2,g3,g4,g5⟩:=z99 N (by omega) hc hs h0 h3;rw [g2];simp only [obs];rw [w6e,show(i:Int)+1=((i+1:Nat):Int)by omega];obtain⟨k,rfl⟩:∃q,k=q+1:=⟨k-1,by omega⟩;exact z2w N hN hc hG hgl k (i+1) _ K (by omega) (by omega) g3 (fun w=>by have:=g5 w;omega) (fun w=>z98 hc hs h0 h3 hG (hT h0) w)
    · rw [dcf h0];exact⟨_,rfl⟩
  · rw [dcf (show ¬(i:Int)<200 by omega)];exact⟨_,rfl⟩
theorem plainTranslateTrue:zis:=by
 intro m c hm hc
 refine⟨2000000,?_⟩
 obtain⟨b,hb⟩:=zabh 2000000 (by decide) hc
 obtain⟨n,e,h1,h2,h3,h4⟩:=z96 2000000 (by decide) m hc
 unfold zu zl8
 rw [zaf6]
 simp only [obs,bnt,cfa]
 rw [hb,h2]
 cases b with
 | false=>rfl
 | true=>
  simp only [obs,bnt,cfa]
  by_cases he:e=0
  · obtain⟨hcv,G,g1,g3,R,D,hR,hi,hcl⟩:=h4 he;subst he;obtain⟨cv,_⟩:=zahy 2000000 (by decide) hc h2;have hil:=hcv.len;simp only [bsf,cfa];rw [zac0 hc];simp only [obs];rw [g1];cases ha:((List.range c.zA.length).map G).all fun l=>decide (l.length≤60)with
    | false=>rfl
    | true=>
     rw [ifp rfl];simp only [obs,bsf,cfa];rw [lnm,List.length_range,bsf,cfa,zacn cv];simp only [obs];have hbr:=zabu hcv hR hi hcl;have hfs:FsV m c ((List.range c.zA.length).map G):=⟨by simp,fun l hl=>by
      obtain⟨k,hk,rfl⟩:=List.mem_map.1 hl;refine⟨?_,(g3 k).2.2⟩;have:=List.all_eq_true.1 ha (G k) (List.mem_map.2 ⟨k,hk,rfl⟩);simpa using this⟩
     have hG:=zahd hfs hbr;have heq:(List.range c.zA.length).map G=(List.range c.zA.length).map (zlh ((List.range c.zA.length).map G)):=by
      apply List.map_congr_left;intro k hk;have hk:k<c.zA.length:=by simpa using hk
      unfold zlh;rw [zr2 _ hk];rfl
     obtain⟨y,hy⟩:=z2w 2000000 (by decide) cv hG (fun k=>by
      unfold zlh;cases hk:((List.range c.zA.length).map G)[k]? with
      | none=>simp
      | some l=>
       obtain⟨j,_,rfl⟩:=List.mem_map.1 (lmg hk);have:=(g3 j).2.1;show(G j).length≤100000;omega) 200 0 (z0t m c) 2000000 (by decide) (by decide) (zacf cv) (fun _=>by show(0:Int)<3000;decide) (fun _ f hf=>by
      rw [show(z0t m c).At.toNat=0 from rfl,hG.ent 0 hcv.pos rfl]at hf;simp at hf)
     rw [←heq]at hy;simp only [nc0]at hy;rw [hy];rfl
  · rw [show(e !=0)=true by simpa using he];rfl
end
end Go.Proofs.YtbmfjmakahmclaaGreatDoor.M
namespace Go.Proofs.YtbmfjmakahmclaaGreatDoor
theorem translateTrue_card:Rows.TranslateTrueUptoCardSaid:=M.cardTranslateTrue M.plainTranslateTrue
#print axioms translateTrue_card
end Go.Proofs.YtbmfjmakahmclaaGreatDoor
