/- TranslateSame: the law answers true for every input of bulk at most 1048576, and its arguments read as they did; by the seat's second form, tied to the program's text. -/
import Derived.Test.YtbmfjmakahmclaaGreatDoorPTranslateSamex1
import Derived.Test.YtbmfjmakahmclaaGreatDoorWTranslateSame
namespace Go.Proofs.YtbmfjmakahmclaaGreatDoor.M
open Go Go.Amx
set_option linter.unusedVariables false
set_option linter.unusedSimpArgs false
set_option maxRecDepth 100000
noncomputable section
section
variable {m:zK} {c:zH} {s:zC}
theorem zamv (s:zC) {x:zA} (hop:x.Op=14):zad s x=(match zfa s.Storage x.Place (szE x.zF)with| .error e=> .error e| .ok a=> .ok (s.At+1,updS s (stV s.Storage x.Pointer.toNat a.toNat))):=by
 cases x;cases hop;rfl
theorem zama (N:Nat) (M:zG) {x:zA} (hop:x.Op=14):ze N M x=((zfm N x.zF).bind fun r1=>(zbp N M x.Place r1).bind fun r2=>cond r2.2.1 ((zcs N r2.2.2.zC.Storage x.Pointer (⟨0,(⟨1,r2.1⟩:Address),0⟩:Pointer)).bind fun r3=>some (⟨updS r2.2.2.zC r3.1,r2.2.2.code,r2.2.2.raised⟩:zG)) (some r2.2.2)).bind fun r=>some (w6 (r.zC.At+1),r):=by
 cases x;cases hop;rfl
theorem zak3 (N:Nat) {x:zA} (hop:x.Op=14) (hi:idx c.zB s.At=some x):zf N c s=((zdp x.zF).bind fun r1=>(zd7 N s x.Place r1).bind fun r2=>cond (r2.2 !=0) (some (r2.2,s)) ((zhu N s.Storage x.Pointer (⟨0,(⟨1,r2.1⟩:Address),0⟩:Pointer)).bind fun r3=>some (0,updS s r3))).bind fun r=>some (w6 (s.At+1),r.1,r.2):=by
 unfold zf
 rw [hi,obs]
 clear hi
 cases x;cases hop;rfl
theorem zaia (N:Nat) (hN:20000<N) (hc:CodeV m c) (hs:StV m c s) {x:zA} (hx:c.zB[s.At.toNat]?=some x) (hop:x.Op=14):zdh N m c s x:=by
 have iv:=zgc hc (lmg hx) hop (U:=⟨false,false,false,true,false,false,false,false,false,false,false,false,true,false,3,0⟩) rfl
 have hi:idx c.zB s.At=some x:=by unfold idx;rw [ifp hs.at0,hx]
 have m8:=hc.m2
 have a0:=hs.at0
 have a1:=hs.at1
 have n240:=hc.len
 have wn1:w6 (s.At+1)=s.At+1:=w6e
 unfold zdh
 rw [zamv s hop,zama N _ hop,zak3 N hop hi]
 have ht:=iv.ty3 rfl
 have hp:zc8 s.Storage x.Place (szE x.zF)=true:=by rw [zfj hs.size];have:=iv.pl rfl;unfold zd4 at this;rw [ifn]at this;exact this
 have hq:ze7 s.Storage x.Pointer=true:=by rw [zo1 hs.size];exact iv.pt rfl
 obtain⟨q1,q2,q3⟩:=zmu hq
 have hsz:=zh4 ht
 have hle:=hs.sto.le
 have hqd:=hs.sto.quad
 rw [z29 N (by omega) ht,zmr ht,obs,obs]
 rcases ztl N (by omega) s c hs.sto hp hsz.1 hsz.2 with⟨e,j,k,he,h1,h2,h3⟩|⟨a,h1,h2,h3,h4,h5⟩
 · rw [h1,h2,h3];refine .inl ⟨e,_,w6 (s.At+1),s,rfl,by omega,rfl,?_⟩;rcases he with rfl|rfl<;>rfl
 · rw [h1,h2,h3];obtain⟨a,rfl⟩:∃k:Nat,a=(k:Int):=⟨a.toNat,by omega⟩;refine .inr ⟨_,_,_,rfl,?_,?_,fun _=>⟨rfl,by omega,by omega⟩,hs.updS (z5k (off:=a) hs.sto (by omega) (by omega) (by omega)) (zz2 (by omega)),rfl,rfl,rfl⟩
   · simp only [obs,ctr];rw [show(⟨0,⟨1,(a:Int)⟩,0⟩:Pointer)=zkj a from rfl,zvb N (by omega) hs.sto hq a (by omega)];show some (w6 (s.At+1),_)=_;rw [wn1];rfl
   · simp only [obs,bsf,cfa];rw [show(⟨0,⟨1,(a:Int)⟩,0⟩:Pointer)=zkj a from rfl,z0d N (by omega) hs.sto hq a (by omega)];show some (w6 (s.At+1),_)=_;rw [wn1];rfl
theorem zamu (s:zC) {x:zA} (hop:x.Op=15):zad s x=(match ldV s.Storage x.Source with|none=> .error 4|some o=> .ok (s.At+1,updS s (stV s.Storage x.Pointer.toNat o.toNat))):=by
 cases x;cases hop;rfl
theorem zal9 (N:Nat) (M:zG) {x:zA} (hop:x.Op=15):ze N M x=((zbf N M x.Source).bind fun r4=>cond r4.2.1 ((zcs N r4.2.2.zC.Storage x.Pointer r4.1).bind fun r5=>some (⟨updS r4.2.2.zC r5.1,r4.2.2.code,r4.2.2.raised⟩:zG)) (some r4.2.2)).bind fun r=>some (w6 (r.zC.At+1),r):=by
 cases x;cases hop;rfl
theorem zak2 (N:Nat) {x:zA} (hop:x.Op=15) (hi:idx c.zB s.At=some x):zf N c s=((zmc N s.Storage x.Source).bind fun r4=>cond (r4.2 !=0) (some (4,s)) ((zhu N s.Storage x.Pointer r4.1).bind fun r5=>some (0,updS s r5))).bind fun r=>some (w6 (s.At+1),r.1,r.2):=by
 unfold zf
 rw [hi,obs]
 clear hi
 cases x;cases hop;rfl
theorem zah9 (N:Nat) (hN:20000<N) (hc:CodeV m c) (hs:StV m c s) {x:zA} (hx:c.zB[s.At.toNat]?=some x) (hop:x.Op=15):zdh N m c s x:=by
 have iv:=zgc hc (lmg hx) hop (U:=⟨false,false,false,false,false,false,false,false,false,false,false,false,true,true,0,0⟩) rfl
 have hi:idx c.zB s.At=some x:=by unfold idx;rw [ifp hs.at0,hx]
 have m8:=hc.m2
 have a0:=hs.at0
 have a1:=hs.at1
 have n240:=hc.len
 have wn1:w6 (s.At+1)=s.At+1:=w6e
 unfold zdh
 rw [zamu s hop,zal9 N _ hop,zak2 N hop hi]
 have hq:ze7 s.Storage x.Pointer=true:=by rw [zo1 hs.size];exact iv.pt rfl
 have hq2:ze7 s.Storage x.Source=true:=by rw [zo1 hs.size];exact iv.sr rfl
 obtain⟨q1,q2,q3⟩:=zmu hq
 have hle:=hs.sto.le
 have hqd:=hs.sto.quad
 rw [zrv N (by omega) s c hs.sto hq2,zy0 N (by omega) hs.sto hq2]
 cases hld:ldV s.Storage x.Source with
 | none=>exact .inl ⟨4,_,_,s,rfl,by omega,rfl,rfl⟩
 | some o=>
  have ho:=zs8 hs.sto hld;obtain⟨o,rfl⟩:∃k:Nat,o=(k:Int):=⟨o.toNat,by omega⟩;refine .inr ⟨_,_,_,rfl,?_,?_,fun _=>⟨rfl,by omega,by omega⟩,hs.updS (z5k (off:=o) hs.sto (by omega) (by omega) (by omega)) (zz2 (by omega)),rfl,rfl,rfl⟩
  · simp only [obs,ctr];rw [zvb N (by omega) hs.sto hq o (by omega)];show some (w6 (s.At+1),_)=_;rw [wn1];rfl
  · simp only [obs,bsf,cfa];rw [z0d N (by omega) hs.sto hq o (by omega)];show some (w6 (s.At+1),_)=_;rw [wn1];rfl
theorem zamt (s:zC) {x:zA} (hop:x.Op=16):zad s x=(match ldV s.Storage x.Pointer with
 | none=> .error 4
 | some o=>if inB (o+zfu (rg s x.R)) 0 16777215=true then .ok (s.At+1,updS s (stV s.Storage x.Pointer.toNat (o+zfu (rg s x.R)).toNat))else .error 5):=by
 cases x;cases hop;rfl
theorem zal8 (N:Nat) (M:zG) {x:zA} (hop:x.Op=16):ze N M x=((ze5 N M x).bind fun r6=>some r6).bind fun r=>some (w6 (r.zC.At+1),r):=by
 cases x;cases hop;rfl
theorem zak1 (N:Nat) {x:zA} (hop:x.Op=16) (hi:idx c.zB s.At=some x):zf N c s=((zmc N s.Storage x.Pointer).bind fun r10=>cond (r10.2 !=0) (some (4,s)) (if 0≤x.R then(if x.R<(s.Registers.length:Int)then((s.Registers[x.R.toNat]?).bind fun x12=>(zms N x12).bind fun r13=>(zbt (w6 (r10.1.Address.Offset+r13)) 0 16777215).bind fun r14=>cond (!r14) (some (5,s)) ((zhu N s.Storage x.Pointer (⟨r10.1.Kind,(⟨r10.1.Address.yF,(w6 (r10.1.Address.Offset+r13))⟩:Address),r10.1.Authority⟩:Pointer)).bind fun r15=>some (0,updS s r15)))else none)else none)).bind fun r=>some (w6 (s.At+1),r.1,r.2):=by
 unfold zf
 rw [hi,obs]
 clear hi
 cases x;cases hop;rfl
theorem zah8 (N:Nat) (hN:20000<N) (hc:CodeV m c) (hs:StV m c s) {x:zA} (hx:c.zB[s.At.toNat]?=some x) (hop:x.Op=16):zdh N m c s x:=by
 have iv:=zgc hc (lmg hx) hop (U:=⟨true,false,false,false,false,false,false,false,false,false,false,false,true,false,0,0⟩) rfl
 have hi:idx c.zB s.At=some x:=by unfold idx;rw [ifp hs.at0,hx]
 have m8:=hc.m2
 have a0:=hs.at0
 have a1:=hs.at1
 have n240:=hc.len
 have wn1:w6 (s.At+1)=s.At+1:=w6e
 unfold zdh
 rw [zamt s hop,zal8 N _ hop,zak1 N hop hi]
 have hq:ze7 s.Storage x.Pointer=true:=by rw [zo1 hs.size];exact iv.pt rfl
 obtain⟨q1,q2,q3⟩:=zmu hq
 obtain⟨g1,g2,g3,g4,g5⟩:=zg7 hs (iv.r rfl)
 have hle:=hs.sto.le
 have hqd:=hs.sto.quad
 unfold ze5
 rw [zrv N (by omega) s c hs.sto hq,zy0 N (by omega) hs.sto hq]
 cases hld:ldV s.Storage x.Pointer with
 | none=>exact .inl ⟨4,_,_,s,rfl,by omega,rfl,rfl⟩
 | some o=>
  have ho:=zs8 hs.sto hld;have hwb:=z47 g5;simp only [obs,bnt,cfa,bsf];rw [g4,ifp g1,ifp g2,g3];simp only [obs];rw [z0s N (by omega) g5,z1r N (by omega) g5];simp only [obs];rw [show(zkj o).Address.Offset=o from rfl,w6e (n:=o+zfu (rg s x.R)),zpq,zma];simp only [obs];rw [zi7 _ _ _ _ (by decide)];simp only [obs];cases hin:inB (o+zfu (rg s x.R)) 0 16777215 with
  | false=>
   rw [ifn (by decide)];exact .inl ⟨5,_,_,s,rfl,by omega,rfl,rfl⟩
  | true=>
   have hr:=zay.1 hin;rw [ifp rfl];obtain⟨k,hk⟩:∃k:Nat,o+zfu (rg s x.R)=(k:Int):=⟨(o+zfu (rg s x.R)).toNat,by omega⟩;rw [hk];rw [show(⟨(zkj o).Kind,⟨(zkj o).Address.yF,(k:Int)⟩,(zkj o).Authority⟩:Pointer)=zkj k from rfl];refine .inr ⟨_,_,_,rfl,?_,?_,fun _=>⟨rfl,by omega,by omega⟩,hs.updS (z5k (off:=k) hs.sto (by omega) (by omega) (by omega)) (zz2 (by omega)),rfl,rfl,rfl⟩
   · simp only [bnt,Bool.not_false,ctr];rw [zvb N (by omega) hs.sto hq k (by omega)];show some (w6 (s.At+1),_)=_;rw [wn1];rfl
   · simp only [bnt,cfa];rw [z0d N (by omega) hs.sto hq k (by omega)];show some (w6 (s.At+1),_)=_;rw [wn1];rfl
theorem zams (s:zC) {x:zA} (hop:x.Op=17):zad s x=(match ldV s.Storage x.Pointer with|none=> .error 4|some _=> .ok (s.At+1,s)):=by
 cases x;cases hop;rfl
theorem zal7 (N:Nat) (M:zG) {x:zA} (hop:x.Op=17):ze N M x=((zbf N M x.Pointer).bind fun r7=>some r7.2.2).bind fun r=>some (w6 (r.zC.At+1),r):=by
 cases x;cases hop;rfl
theorem zak0 (N:Nat) {x:zA} (hop:x.Op=17) (hi:idx c.zB s.At=some x):zf N c s=((zmc N s.Storage x.Pointer).bind fun r10=>cond (r10.2 !=0) (some (4,s)) (some (0,s))).bind fun r=>some (w6 (s.At+1),r.1,r.2):=by
 unfold zf
 rw [hi,obs]
 clear hi
 cases x;cases hop;rfl
theorem zah7 (N:Nat) (hN:20000<N) (hc:CodeV m c) (hs:StV m c s) {x:zA} (hx:c.zB[s.At.toNat]?=some x) (hop:x.Op=17):zdh N m c s x:=by
 have iv:=zgc hc (lmg hx) hop (U:=⟨false,false,false,false,false,false,false,false,false,false,false,false,true,false,0,0⟩) rfl
 have hi:idx c.zB s.At=some x:=by unfold idx;rw [ifp hs.at0,hx]
 have m8:=hc.m2
 have a0:=hs.at0
 have a1:=hs.at1
 have n240:=hc.len
 have wn1:w6 (s.At+1)=s.At+1:=w6e
 unfold zdh
 rw [zams s hop,zal7 N _ hop,zak0 N hop hi]
 have hq:ze7 s.Storage x.Pointer=true:=by rw [zo1 hs.size];exact iv.pt rfl
 rw [zrv N (by omega) s c hs.sto hq,zy0 N (by omega) hs.sto hq]
 cases hld:ldV s.Storage x.Pointer with
 | none=>exact .inl ⟨4,_,_,s,rfl,by omega,rfl,rfl⟩
 | some o=>
  refine .inr ⟨_,_,_,rfl,?_,?_,fun _=>⟨rfl,by omega,by omega⟩,hs,rfl,rfl,rfl⟩
  · show some (w6 (s.At+1),_)=_;rw [wn1]
  · show some (w6 (s.At+1),_)=_;rw [wn1]
theorem zamr (s:zC) {x:zA} (hop:x.Op=18):zad s x=(if 6≤s.Stack.length then .error 6 else .ok (x.Target,updK s (s.Stack++[s.At]))):=by
 cases x;cases hop;rfl
theorem zal6 (N:Nat) (M:zG) {x:zA} (hop:x.Op=18):ze N M x=((zf0 M x.Target).bind fun r1=>some (r1.1,r1.2)).bind fun r=>some (r.1,r.2):=by
 cases x;cases hop;rfl
theorem zakz (N:Nat) {x:zA} (hop:x.Op=18) (hi:idx c.zB s.At=some x):zf N c s=cond ((s.Stack.length:Int)==6) (some (0,6,s)) (cond (Nat.ble ((s.Stack.length+([s.At]:List Int).length)*8) zae) (some (x.Target,0,updK s (s.Stack++[s.At]))) none):=by
 unfold zf
 rw [hi,obs]
 clear hi
 cases x;cases hop;rfl
theorem zah6 (N:Nat) (hN:20000<N) (hc:CodeV m c) (hs:StV m c s) {x:zA} (hx:c.zB[s.At.toNat]?=some x) (hop:x.Op=18):zdh N m c s x:=by
 have iv:=zgc hc (lmg hx) hop (U:=⟨false,false,false,false,false,false,false,false,false,true,false,false,false,false,0,0⟩) rfl
 have hi:idx c.zB s.At=some x:=by unfold idx;rw [ifp hs.at0,hx]
 have m8:=hc.m2
 have a0:=hs.at0
 have a1:=hs.at1
 have n240:=hc.len
 have wn1:w6 (s.At+1)=s.At+1:=w6e
 unfold zdh
 rw [zamr s hop,zal6 N _ hop,zakz N hop hi]
 have ht:=iv.tg rfl
 have h6:=hs.stk
 unfold zf0
 simp only []
 rw [zi7 _ _ _ _ (by decide)]
 simp only [obs,zbx]
 by_cases h:6≤s.Stack.length
 · rw [ifp h,dct (show(s.Stack.length:Int)≥6 by omega),dct (show(s.Stack.length:Int)=6 by omega)];exact .inl ⟨6,_,_,s,rfl,by omega,rfl,rfl⟩
 · rw [ifn h,dcf (show ¬(s.Stack.length:Int)≥6 by omega),dcf (show ¬(s.Stack.length:Int)=6 by omega)];have hcl:zc6 8 s.Stack=some s.Stack:=by unfold zc6;rw [zds (by omega)];rfl
   have hrm:Nat.ble ((s.Stack.length+([s.At]:List Int).length)*8) zae=true:=zds (by simp only [lnc,ln0];omega);simp only [Bool.not_false,ctr,cfa];rw [hcl];simp only [obs];rw [hrm];refine .inr ⟨_,_,_,rfl,rfl,rfl,fun _=>⟨rfl,by omega,by omega⟩,hs.updK ?_ ?_,rfl,rfl,rfl⟩
   · rw [lna,lns];omega
   · intro i hmem;rcases List.mem_append.1 hmem with h2|h2
     · exact hs.calls i h2
     · rw [List.mem_singleton.1 h2];exact⟨⟨a0,a1⟩,x,hx,hop⟩
theorem zamq (s:zC) {x:zA} (hop:x.Op=19):zad s x=(if s.Stack.length=0 then .ok (s.At,updT s 1)else .ok (s.Stack.getD (s.Stack.length-1) 0+1,updK s (s.Stack.take (s.Stack.length-1)))):=by
 cases x;cases hop;rfl
theorem zal5 (N:Nat) (M:zG) {x:zA} (hop:x.Op=19):ze N M x=((zf1 M).bind fun r2=>some (r2.1,r2.2)).bind fun r=>some (r.1,r.2):=by
 cases x;cases hop;rfl
theorem zaky (N:Nat) {x:zA} (hop:x.Op=19) (hi:idx c.zB s.At=some x):zf N c s=cond ((s.Stack.length:Int)==0) (some ((w6 (s.At+1)),0,updT s 1)) (if 0≤(w6 ((s.Stack.length:Int)-1))then(if(w6 ((s.Stack.length:Int)-1))<(s.Stack.length:Int)then((s.Stack[(w6 ((s.Stack.length:Int)-1)).toNat]?).bind fun x6=>if 0≤(w6 ((s.Stack.length:Int)-1))∧(w6 ((s.Stack.length:Int)-1))≤(s.Stack.length:Int)then(if 0≤(0:Int)∧(0:Int)≤(w6 ((s.Stack.length:Int)-1))then(some ((w6 (x6+1)),0,updK s ((s.Stack.drop ((0:Int).toNat)).take ((w6 ((s.Stack.length:Int)-1)).toNat-(0:Int).toNat))))else none)else none)else none)else none):=by
 unfold zf
 rw [hi,obs]
 clear hi
 cases x;cases hop;rfl
theorem zah5 (N:Nat) (hN:20000<N) (hc:CodeV m c) (hs:StV m c s) {x:zA} (hx:c.zB[s.At.toNat]?=some x) (hop:x.Op=19):zdh N m c s x:=by
 have iv:=zgc hc (lmg hx) hop (U:=⟨false,false,false,false,false,false,false,false,false,false,false,false,false,false,0,0⟩) rfl
 have hi:idx c.zB s.At=some x:=by unfold idx;rw [ifp hs.at0,hx]
 have m8:=hc.m2
 have a0:=hs.at0
 have a1:=hs.at1
 have n240:=hc.len
 have wn1:w6 (s.At+1)=s.At+1:=w6e
 unfold zdh
 rw [zamq s hop,zal5 N _ hop,zaky N hop hi]
 have h6:=hs.stk
 unfold zf1
 simp only [zbx]
 by_cases h:s.Stack.length=0
 · rw [ifp h,w6e,dct (show(s.Stack.length:Int)-1<0 by omega),dct (show(s.Stack.length:Int)=0 by omega)];exact .inr ⟨_,_,_,rfl,rfl,rfl,(fun h=>by have h':(1:Int)=0:=h;omega),hs.updT (by omega) (by omega),rfl,rfl,rfl⟩
 · have hl:(s.Stack.length:Int)-1=((s.Stack.length-1:Nat):Int):=by omega
   have hx1:s.Stack[s.Stack.length-1]?=some (s.Stack.getD (s.Stack.length-1) 0):=by rw [gdd,lge (by omega)];rfl
   obtain⟨hr,_⟩:=hs.calls _ (lmg hx1);have hcl:∀l:List Int,l.length≤6→zc6 8 l=some l:=fun l hl=>by unfold zc6;rw [zds (by omega)];rfl
   rw [ifn h,w6e (n:=(s.Stack.length:Int)-1),dcf (show ¬(s.Stack.length:Int)-1<0 by omega),dcf (show ¬(s.Stack.length:Int)=0 by omega)];simp only [cfa];rw [hl,zau,hx1];simp only [obs];rw [ifp,ifp,ifp,ifp,itn,hx1];simp only [obs];rw [ifp,ifp,show(0:Int).toNat=0 from rfl,dr0,dr0,Nat.sub_zero,hcl _ (by rw [lnt];omega),w6e];refine .inr ⟨_,_,_,rfl,rfl,rfl,fun _=>⟨rfl,by omega,by omega⟩,hs.updK ?_ ?_,rfl,rfl,rfl⟩
   · rw [lnt];omega
   · intro i hi2;exact hs.calls i (List.mem_of_mem_take hi2)
theorem zamp (s:zC) {x:zA} (hop:x.Op=20):zad s x=(if inB (zfu (rg s x.R)) 100 999=true then .error (zfu (rg s x.R))else .error 2):=by
 cases x;cases hop;rfl
theorem zal4 (N:Nat) (M:zG) {x:zA} (hop:x.Op=20):ze N M x=(zfe N M x).bind fun r=>some (w6 (r.zC.At+1),r):=by
 cases x;cases hop;rfl
theorem zakx (N:Nat) {x:zA} (hop:x.Op=20) (hi:idx c.zB s.At=some x):zf N c s=if 0≤x.R then(if x.R<(s.Registers.length:Int)then((s.Registers[x.R.toNat]?).bind fun x7=>(zms N x7).bind fun r8=>(zbt r8 100 999).bind fun r9=>cond r9 (some (0,r8,s)) (some (0,2,s)))else none)else none:=by
 unfold zf
 rw [hi,obs]
 clear hi
 cases x;cases hop;rfl
theorem zah4 (N:Nat) (hN:20000<N) (hc:CodeV m c) (hs:StV m c s) {x:zA} (hx:c.zB[s.At.toNat]?=some x) (hop:x.Op=20):zdh N m c s x:=by
 have iv:=zgc hc (lmg hx) hop (U:=⟨true,false,false,false,false,false,false,false,false,false,false,false,false,false,0,0⟩) rfl
 have hi:idx c.zB s.At=some x:=by unfold idx;rw [ifp hs.at0,hx]
 have m8:=hc.m2
 have a0:=hs.at0
 have a1:=hs.at1
 have n240:=hc.len
 have wn1:w6 (s.At+1)=s.At+1:=w6e
 unfold zdh
 rw [zamp s hop,zal4 N _ hop,zakx N hop hi]
 obtain⟨g1,g2,g3,g4,g5⟩:=zg7 hs (iv.r rfl)
 unfold zfe
 simp only []
 rw [g4,ifp g1,ifp g2,g3]
 simp only [obs]
 rw [z0s N (by omega) g5,z1r N (by omega) g5]
 simp only [obs]
 rw [zpq,zma]
 simp only [obs]
 cases hin:inB (zfu (rg s x.R)) 100 999 with
 | false=>
  rw [ifn (by decide)];simp only [Bool.not_false,ctr,cfa];rw [zi7 _ _ _ _ (by decide)];exact .inl ⟨2,_,_,s,rfl,by omega,rfl,rfl⟩
 | true=>
  have hr:=zay.1 hin;rw [ifp rfl];simp only [bnt,ctr,cfa];rw [zi7 _ _ _ _ (by omega)];exact .inl ⟨_,_,_,s,rfl,by omega,rfl,rfl⟩
theorem zxv (hs:StV m c s) (l:ByteArray) (hl:l.size≤256) (n240:c.zB.length≤240):
 ∃t,zig s l= .ok (s.At+1,t)∧
  (cond ((s.Lines.length:Int)==40) (some (⟨updT s 3,c,0⟩:zG)) ((zc6 16 s.Lines).bind fun r6=>cond (Nat.ble ((r6.length+([l]:List ByteArray).length)*16) zae) (some (⟨updL s (r6++[l]),c,0⟩:zG)) none))=some ⟨t,c,0⟩∧
  (cond ((s.Lines.length:Int)==40) (some ((0:Int),updT s 3)) (cond (Nat.ble ((s.Lines.length+([l]:List ByteArray).length)*16) zae) (some (0,updL s (s.Lines++[l]))) none))=some (0,t)∧StV m c t∧t.At=s.At∧t.Steps=s.Steps∧t.Exception=s.Exception:=by
 have h40:=hs.lines
 unfold zig
 rw [zbx]
 by_cases h:s.Lines.length=40
 · rw [ifp h,dct (show(s.Lines.length:Int)=40 by omega)];exact⟨_,rfl,rfl,rfl,hs.updT (by omega) (by omega),rfl,rfl,rfl⟩
 · rw [ifn h,dcf (show ¬(s.Lines.length:Int)=40 by omega)];have hcl:zc6 16 s.Lines=some s.Lines:=by unfold zc6;rw [zds (by omega)];rfl
   have hrm:Nat.ble ((s.Lines.length+([l]:List ByteArray).length)*16) zae=true:=zds (by simp only [lnc,ln0];omega);simp only [cfa];rw [hcl];simp only [obs];rw [hrm];exact⟨_,rfl,rfl,rfl,hs.updL (by omega) hl,rfl,rfl,rfl⟩
theorem zamn (s:zC) {x:zA} (hop:x.Op=22):zad s x=(zig s (zql (rg s x.R))):=by
 cases x;cases hop;rfl
theorem zal2 (N:Nat) (M:zG) {x:zA} (hop:x.Op=22):ze N M x=((idx M.zC.Registers x.R).bind fun x1=>(zep x1).bind fun r2=>cond ((M.zC.Lines.length:Int)==40) (some (⟨updT M.zC 3,M.code,M.raised⟩:zG)) ((zc6 16 M.zC.Lines).bind fun r6=>cond (Nat.ble ((r6.length+([r2.1]:List ByteArray).length)*16) zae) (some (⟨updL M.zC (r6++[r2.1]),M.code,M.raised⟩:zG)) none)).bind fun r=>some (w6 (r.zC.At+1),r):=by
 cases x;cases hop;rfl
theorem zakv (N:Nat) {x:zA} (hop:x.Op=22) (hi:idx c.zB s.At=some x):zf N c s=(if 0≤x.R then(if x.R<(s.Registers.length:Int)then((s.Registers[x.R.toNat]?).bind fun x1=>(zrs N x1).bind fun r2=>cond ((s.Lines.length:Int)==40) (some (0,updT s 3)) (cond (Nat.ble ((s.Lines.length+([r2]:List ByteArray).length)*16) zae) (some (0,updL s (s.Lines++[r2]))) none))else none)else none).bind fun r=>some (w6 (s.At+1),r.1,r.2):=by
 unfold zf
 rw [hi,obs]
 clear hi
 cases x;cases hop;rfl
theorem zah2 (N:Nat) (hN:20000<N) (hc:CodeV m c) (hs:StV m c s) {x:zA} (hx:c.zB[s.At.toNat]?=some x) (hop:x.Op=22):zdh N m c s x:=by
 have iv:=zgc hc (lmg hx) hop (U:=⟨true,false,false,false,false,false,false,false,false,false,false,false,false,false,0,0⟩) rfl
 have hi:idx c.zB s.At=some x:=by unfold idx;rw [ifp hs.at0,hx]
 have m8:=hc.m2
 have a0:=hs.at0
 have a1:=hs.at1
 have n240:=hc.len
 have wn1:w6 (s.At+1)=s.At+1:=w6e
 unfold zdh
 rw [zamn s hop,zal2 N _ hop,zakv N hop hi]
 obtain⟨g1,g2,g3,g4,g5⟩:=zg7 hs (iv.r rfl)
 simp only []
 rw [g4,ifp g1,ifp g2,g3]
 simp only [obs]
 rw [z3z g5,zagr N (by omega) g5]
 simp only [obs]
 obtain⟨t,p1,p2,p3,p4,p5,p6,p7⟩:=zxv hs (zql (rg s x.R)) (zaad g5) n240
 rw [p1,p2,p3]
 refine .inr ⟨_,_,_,rfl,?_,?_,fun _=>⟨rfl,by omega,by omega⟩,p4,p5,p6,p7⟩
 · show some (w6 (t.At+1),_)=_;rw [p5,wn1]
 · show some (w6 (s.At+1),_)=_;rw [wn1]
theorem zamm (s:zC) {x:zA} (hop:x.Op=23):zad s x=(match zgz s.Storage x.Place x.zF with| .error e=> .error e| .ok b=>zig s b):=by
 cases x;cases hop;rfl
theorem zal1 (N:Nat) (M:zG) {x:zA} (hop:x.Op=23):ze N M x=((zaf N M x.Place x.zF).bind fun r4=>cond (!r4.2.1) (some r4.2.2) (cond ((r4.2.2.zC.Lines.length:Int)==40) (some (⟨updT r4.2.2.zC 3,r4.2.2.code,r4.2.2.raised⟩:zG)) ((zc6 16 r4.2.2.zC.Lines).bind fun r6=>cond (Nat.ble ((r6.length+([r4.1]:List ByteArray).length)*16) zae) (some (⟨updL r4.2.2.zC (r6++[r4.1]),r4.2.2.code,r4.2.2.raised⟩:zG)) none))).bind fun r=>some (w6 (r.zC.At+1),r):=by
 cases x;cases hop;rfl
theorem zaku (N:Nat) {x:zA} (hop:x.Op=23) (hi:idx c.zB s.At=some x):zf N c s=((zfw N s x.Place x.zF).bind fun r3=>cond (r3.2 !=0) (some (r3.2,s)) (cond ((s.Lines.length:Int)==40) (some (0,updT s 3)) (cond (Nat.ble ((s.Lines.length+([r3.1]:List ByteArray).length)*16) zae) (some (0,updL s (s.Lines++[r3.1]))) none))).bind fun r=>some (w6 (s.At+1),r.1,r.2):=by
 unfold zf
 rw [hi,obs]
 clear hi
 cases x;cases hop;rfl
theorem zah1 (N:Nat) (hN:20000<N) (hc:CodeV m c) (hs:StV m c s) {x:zA} (hx:c.zB[s.At.toNat]?=some x) (hop:x.Op=23):zdh N m c s x:=by
 have iv:=zgc hc (lmg hx) hop (U:=⟨false,false,false,true,false,false,false,false,false,false,false,false,false,false,2,0⟩) rfl
 have hi:idx c.zB s.At=some x:=by unfold idx;rw [ifp hs.at0,hx]
 have m8:=hc.m2
 have a0:=hs.at0
 have a1:=hs.at1
 have n240:=hc.len
 have wn1:w6 (s.At+1)=s.At+1:=w6e
 unfold zdh
 rw [zamm s hop,zal1 N _ hop,zaku N hop hi]
 have hp:zc8 s.Storage x.Place (szE x.zF)=true:=by rw [zfj hs.size];have:=iv.pl rfl;unfold zd4 at this;rw [ifn]at this;exact this
 have hz1:=zh4 (iv.ty2 rfl).1
 rcases zo0 N (by omega) s c hs.sto (iv.ty2 rfl).1 hp with⟨e,b,k,he,h1,h2,h3⟩|⟨b,h1,h2,h3,h4⟩
 · rw [h1,h2,h3];refine .inl ⟨e,_,w6 (s.At+1),s,rfl,by omega,rfl,?_⟩;rcases he with rfl|rfl<;>rfl
 rw [h1,h2,h3]
 simp only [obs,bnt,cfa,bsf]
 obtain⟨t,p1,p2,p3,p4,p5,p6,p7⟩:=zxv hs b (by omega) n240
 rw [p1,p2,p3]
 refine .inr ⟨_,_,_,rfl,?_,?_,fun _=>⟨rfl,by omega,by omega⟩,p4,p5,p6,p7⟩
 · show some (w6 (t.At+1),_)=_;rw [p5,wn1]
 · show some (w6 (s.At+1),_)=_;rw [wn1]
theorem zaml (s:zC) {x:zA} (hop:x.Op=24):zad s x=(zig s x.Text):=by
 cases x;cases hop;rfl
theorem zal0 (N:Nat) (M:zG) {x:zA} (hop:x.Op=24):ze N M x=(cond ((M.zC.Lines.length:Int)==40) (some (⟨updT M.zC 3,M.code,M.raised⟩:zG)) ((zc6 16 M.zC.Lines).bind fun r6=>cond (Nat.ble ((r6.length+([x.Text]:List ByteArray).length)*16) zae) (some (⟨updL M.zC (r6++[x.Text]),M.code,M.raised⟩:zG)) none)).bind fun r=>some (w6 (r.zC.At+1),r):=by
 cases x;cases hop;rfl
theorem zakt (N:Nat) {x:zA} (hop:x.Op=24) (hi:idx c.zB s.At=some x):zf N c s=(cond ((s.Lines.length:Int)==40) (some (0,updT s 3)) (cond (Nat.ble ((s.Lines.length+([x.Text]:List ByteArray).length)*16) zae) (some (0,updL s (s.Lines++[x.Text]))) none)).bind fun r=>some (w6 (s.At+1),r.1,r.2):=by
 unfold zf
 rw [hi,obs]
 clear hi
 cases x;cases hop;rfl
theorem zah0 (N:Nat) (hN:20000<N) (hc:CodeV m c) (hs:StV m c s) {x:zA} (hx:c.zB[s.At.toNat]?=some x) (hop:x.Op=24):zdh N m c s x:=by
 have iv:=zgc hc (lmg hx) hop (U:=⟨false,false,false,false,false,false,false,false,false,false,true,false,false,false,0,0⟩) rfl
 have hi:idx c.zB s.At=some x:=by unfold idx;rw [ifp hs.at0,hx]
 have m8:=hc.m2
 have a0:=hs.at0
 have a1:=hs.at1
 have n240:=hc.len
 have wn1:w6 (s.At+1)=s.At+1:=w6e
 unfold zdh
 rw [zaml s hop,zal0 N _ hop,zakt N hop hi]
 simp only []
 obtain⟨t,p1,p2,p3,p4,p5,p6,p7⟩:=zxv hs x.Text (iv.tx) n240
 rw [p1,p2,p3]
 refine .inr ⟨_,_,_,rfl,?_,?_,fun _=>⟨rfl,by omega,by omega⟩,p4,p5,p6,p7⟩
 · show some (w6 (t.At+1),_)=_;rw [p5,wn1]
 · show some (w6 (s.At+1),_)=_;rw [wn1]
theorem zamk (s:zC) {x:zA} (hop:x.Op=25):zad s x=(if s.Marks=300 then .ok (s.At+1,updT s 3)else .ok (s.At+1,updM s (s.Marks+1))):=by
 cases x;cases hop;rfl
theorem zalz (N:Nat) (M:zG) {x:zA} (hop:x.Op=25):ze N M x=(zfz M).bind fun r=>some (w6 (r.zC.At+1),r):=by
 cases x;cases hop;rfl
theorem zaks (N:Nat) {x:zA} (hop:x.Op=25) (hi:idx c.zB s.At=some x):zf N c s=cond (s.Marks==300) (some ((w6 (s.At+1)),0,updT s 3)) (some ((w6 (s.At+1)),0,updM s (w6 (s.Marks+1)))):=by
 unfold zf
 rw [hi,obs]
 clear hi
 cases x;cases hop;rfl
theorem zahz (N:Nat) (hN:20000<N) (hc:CodeV m c) (hs:StV m c s) {x:zA} (hx:c.zB[s.At.toNat]?=some x) (hop:x.Op=25):zdh N m c s x:=by
 have iv:=zgc hc (lmg hx) hop (U:=⟨false,false,false,false,false,false,false,false,false,false,false,false,false,false,0,0⟩) rfl
 have hi:idx c.zB s.At=some x:=by unfold idx;rw [ifp hs.at0,hx]
 have m8:=hc.m2
 have a0:=hs.at0
 have a1:=hs.at1
 have n240:=hc.len
 have wn1:w6 (s.At+1)=s.At+1:=w6e
 unfold zdh
 rw [zamk s hop,zalz N _ hop,zaks N hop hi]
 have k0:=hs.mk0
 have k1:=hs.mk1
 unfold zfz
 simp only [zbx]
 rw [w6e (n:=s.Marks+1),wn1]
 by_cases h:s.Marks=300
 · rw [ifp h,dct h];refine .inr ⟨_,_,_,rfl,?_,rfl,fun _=>⟨rfl,by omega,by omega⟩,hs.updT (by omega) (by omega),rfl,rfl,rfl⟩;show some (w6 (s.At+1),_)=_;rw [wn1];rfl
 · rw [ifn h,dcf h];refine .inr ⟨_,_,_,rfl,?_,rfl,fun _=>⟨rfl,by omega,by omega⟩,hs.updM (by omega) (by omega),rfl,rfl,rfl⟩;show some (w6 (s.At+1),_)=_;rw [wn1];rfl
theorem zamj (s:zC) {x:zA} (hop:x.Op=26):zad s x=(.ok (s.At+1,updT s 1)):=by
 cases x;cases hop;rfl
theorem zaly (N:Nat) (M:zG) {x:zA} (hop:x.Op=26):ze N M x=some (w6 (M.zC.At+1),⟨updT M.zC 1,M.code,M.raised⟩):=by
 cases x;cases hop;rfl
theorem zakr (N:Nat) {x:zA} (hop:x.Op=26) (hi:idx c.zB s.At=some x):zf N c s=some (w6 (s.At+1),0,updT s 1):=by
 unfold zf
 rw [hi,obs]
 clear hi
 cases x;cases hop;rfl
theorem zahy (N:Nat) (hN:20000<N) (hc:CodeV m c) (hs:StV m c s) {x:zA} (hx:c.zB[s.At.toNat]?=some x) (hop:x.Op=26):zdh N m c s x:=by
 have iv:=zgc hc (lmg hx) hop (U:=⟨false,false,false,false,false,false,false,false,false,false,false,false,false,false,0,0⟩) rfl
 have hi:idx c.zB s.At=some x:=by unfold idx;rw [ifp hs.at0,hx]
 have m8:=hc.m2
 have a0:=hs.at0
 have a1:=hs.at1
 have n240:=hc.len
 have wn1:w6 (s.At+1)=s.At+1:=w6e
 unfold zdh
 rw [zamj s hop,zaly N _ hop,zakr N hop hi]
 rw [wn1]
 exact .inr ⟨_,_,_,rfl,rfl,rfl,fun _=>⟨rfl,by omega,by omega⟩,hs.updT (by omega) (by omega),rfl,rfl,rfl⟩
theorem zada (N:Nat) (hN:20000<N) (hc:CodeV m c) (hs:StV m c s) {x:zA} (hx:c.zB[s.At.toNat]?=some x):zdh N m c s x:=by
 obtain⟨⟨h0,h26⟩,_⟩:=zafu (hc.ins x (lmg hx))
 rcases(by omega:x.Op=0∨x.Op=1∨x.Op=2∨x.Op=3∨x.Op=4∨x.Op=5∨x.Op=6∨x.Op=7∨x.Op=8∨x.Op=9∨x.Op=10∨x.Op=11∨x.Op=12∨x.Op=13∨x.Op=14∨x.Op=15∨x.Op=16∨x.Op=17∨x.Op=18∨x.Op=19∨x.Op=20∨x.Op=21∨x.Op=22∨x.Op=23∨x.Op=24∨x.Op=25∨x.Op=26)with h|h|h|h|h|h|h|h|h|h|h|h|h|h|h|h|h|h|h|h|h|h|h|h|h|h|h
 · exact zaka N hN hc hs hx h
 · exact zaj9 N hN hc hs hx h
 · exact zaj8 N hN hc hs hx h
 · exact zaj7 N hN hc hs hx h
 · exact zaj6 N hN hc hs hx h
 · exact zaj5 N hN hc hs hx h
 · exact zaj4 N hN hc hs hx h
 · exact zaj3 N hN hc hs hx h
 · exact zaj2 N hN hc hs hx h
 · exact zaj1 N hN hc hs hx h
 · exact zaie N hN hc hs hx h
 · exact zaid N hN hc hs hx h
 · exact zaic N hN hc hs hx h
 · exact zaib N hN hc hs hx h
 · exact zaia N hN hc hs hx h
 · exact zah9 N hN hc hs hx h
 · exact zah8 N hN hc hs hx h
 · exact zah7 N hN hc hs hx h
 · exact zah6 N hN hc hs hx h
 · exact zah5 N hN hc hs hx h
 · exact zah4 N hN hc hs hx h
 · exact zah3 N hN hc hs hx h
 · exact zah2 N hN hc hs hx h
 · exact zah1 N hN hc hs hx h
 · exact zah0 N hN hc hs hx h
 · exact zahz N hN hc hs hx h
 · exact zahy N hN hc hs hx h
end
section
variable {m:zK} {c:zH} {s:zC}
def zni (t:zT) (a e:Int):Bool:=inB a t.From (t.To-1)&&(decide (t.Exception=0)||decide (t.Exception=e))
def zt5 (c:zH) (a e:Int):Option Nat:=(List.range c.zQ.length).findSome? fun i=>(c.zQ[i]?).bind fun t=>if zni t a e=true then some i else none
def zdv (c:zH) (a e:Int):Int:=match zt5 c a e with|some i=>(c.zQ.getD i ⟨0,0,0,0⟩).Handler|none=> -1
theorem zta {a e:Int} {i:Nat} (h:zt5 c a e=some i):∃t,c.zQ[i]?=some t∧zni t a e=true:=by
 obtain⟨j,_,hj⟩:=eof h
 rw [Option.bind_eq_some_iff]at hj
 obtain⟨t,ht,hj⟩:=hj
 split at hj
 · rename_i hh;cases hj;exact⟨t,ht,hh⟩
 · cases hj
theorem zrn (hc:CodeV m c) {t:zT} (ht:t∈c.zQ):0≤t.From∧t.From≤t.To∧t.To≤(c.zB.length:Int)∧0≤t.Handler∧t.Handler<(c.zB.length:Int):=by
 have:=hc.trap t ht
 unfold zm2 at this
 simp only [Bool.and_eq_true,decide_eq_true_eq]at this
 obtain⟨h1,h2,h3,h4⟩:=this
 have:=zay.1 h1
 have:=zay.1 h4
 omega
theorem zut (hc:CodeV m c) (a e:Int):zdv c a e= -1∨(0≤zdv c a e∧zdv c a e<(c.zB.length:Int)):=by
 unfold zdv
 cases h:zt5 c a e with
 | none=>exact .inl rfl
 | some i=>
  obtain⟨t,ht,_⟩:=zta h;right;simp only [];rw [gdd,ht];have:=zrn hc (lmg ht);exact this.2.2.2
theorem z2b (N:Nat) (hN:20000<N) (hc:CodeV m c) (a e:Int):zhn N c a e=some (zdv c a e):=by
 have n40:=hc.traps
 have n240:=hc.len
 unfold zhn zt
 have l1:=zcm (f:=zt.r0 N) (fun i=>(c.zQ,(c.zQ.length:Int),(i:Int),a,e)) (fun i=>((c.zQ[i]?).bind fun t=>if zni t a e=true then some i else none).map fun i:Nat=>(i:Int)) c.zQ.length
  (fun i hi=>by
   have hx:=lge hi;have hf:=zrn hc (List.getElem_mem hi);simp only [zt.r0,zt.b0,zau,hx,obs,dct (show(i:Int)<(c.zQ.length:Int)by omega),ctr];have e1:zg5 c.zQ[i] a e=some (zni c.zQ[i] a e):=by
    unfold zg5 zni;rw [w6e,zpq,zbx,zbx];simp only [obs];cases inB a c.zQ[i].From (c.zQ[i].To-1)<;>cases decide (c.zQ[i].Exception=0)<;>cases decide (c.zQ[i].Exception=e)<;>rfl
   rw [e1,w6e];cases zni c.zQ[i] a e<;>rfl)
  (by simp only [zt.r0,zt.b0,dcf (show ¬(c.zQ.length:Int)<(c.zQ.length:Int)by omega),cfa]) (N:=N) (by omega)
 simp only [nc0]at l1
 rw [l1]
 have e2:∀l:List Nat,l.findSome? (fun i=>((c.zQ[i]?).bind fun t=>if zni t a e=true then some i else none).map fun i:Nat=>(i:Int))=(l.findSome? (fun i=>(c.zQ[i]?).bind fun t=>if zni t a e=true then some i else none)).map fun i:Nat=>(i:Int):=by
  intro l
  induction l with
  | nil=>rfl
  | cons i l ih=>
   rw [List.findSome?_cons,List.findSome?_cons];cases(c.zQ[i]?).bind fun t=>if zni t a e=true then some i else none with
   | none=>exact ih
   | some j=>rfl
 rw [e2]
 have e3:(List.range c.zQ.length).findSome? (fun i=>(c.zQ[i]?).bind fun t=>if zni t a e=true then some i else none)=zt5 c a e:=rfl
 rw [e3]
 unfold zdv
 cases h:zt5 c a e with
 | none=>rfl
 | some i=>
  obtain⟨t,ht,_⟩:=zta h;simp only [Option.map_some,zbq,obs];rw [dcf (show ¬((i:Nat):Int)<0 by omega),cfa,zau,ht,gdd,ht];rfl
theorem zaas (N:Nat) (hN:20000<N) (hc:CodeV m c) (a e:Int):zwz N c a e=some (zdv c a e):=z2b N hN hc a e
def updA (s:zC) (k:Int):zC:=⟨s.Registers,s.Condition,s.Storage,k,s.Stack,s.Lines,s.Status,s.Exception,s.Marks,s.Steps⟩
def updE (s:zC) (k:Int):zC:=⟨s.Registers,s.Condition,s.Storage,s.At,s.Stack,s.Lines,s.Status,k,s.Marks,s.Steps⟩
def updP (s:zC) (k:Int):zC:=⟨s.Registers,s.Condition,s.Storage,s.At,s.Stack,s.Lines,s.Status,s.Exception,s.Marks,k⟩
theorem StV.updA (h:StV m c s) {k:Int} (h1:0≤k) (h2:k<(c.zB.length:Int)):StV m c (updA s k):={
 regs:=h.regs,nums:=h.nums,cnd:=h.cnd,sto:=h.sto,size:=h.size,at0:=h1,at1:=h2,stk:=h.stk,calls:=h.calls,lines:=h.lines,long:=h.long,st0:=h.st0,st1:=h.st1,ex0:=h.ex0,ex1:=h.ex1,mk0:=h.mk0,mk1:=h.mk1,sp0:=h.sp0,sp1:=h.sp1}
theorem StV.updE (h:StV m c s) {k:Int} (h1:0≤k) (h2:k≤999):StV m c (updE s k):={
 regs:=h.regs,nums:=h.nums,cnd:=h.cnd,sto:=h.sto,size:=h.size,at0:=h.at0,at1:=h.at1,stk:=h.stk,calls:=h.calls,lines:=h.lines,long:=h.long,st0:=h.st0,st1:=h.st1,ex0:=h1,ex1:=h2,mk0:=h.mk0,mk1:=h.mk1,sp0:=h.sp0,sp1:=h.sp1}
theorem StV.updP (h:StV m c s) {k:Int} (h1:0≤k) (h2:k≤3000):StV m c (updP s k):={
 regs:=h.regs,nums:=h.nums,cnd:=h.cnd,sto:=h.sto,size:=h.size,at0:=h.at0,at1:=h.at1,stk:=h.stk,calls:=h.calls,lines:=h.lines,long:=h.long,st0:=h.st0,st1:=h.st1,ex0:=h.ex0,ex1:=h.ex1,mk0:=h.mk0,mk1:=h.mk1,sp0:=h1,sp1:=h2}
def ze6 (c:zH) (e:Int):Nat→zC→zC
 | 0,s=>s
 | k+1,s=>if 0≤zdv c s.At e then updA s (zdv c s.At e)else if s.Stack.length=0 then updT s 2
  else ze6 c e k (updK (updA s (s.Stack.getD (s.Stack.length-1) 0)) (s.Stack.take (s.Stack.length-1)))
theorem zzo (N:Nat) (hN:20000<N) (hc:CodeV m c) (e:Int) (he:e≠0) (z:zC):∀(k:Nat) (s:zC),StV m c s→s.Stack.length<k→∀K:Nat,k≤K→
 zp (za6.r0 N) K ⟨s,c,e⟩=some (.inl ⟨ze6 c e k s,c,e⟩)∧zp (zg8.r0 N) K (e,c,s,z)=some (.inl (ze6 c e k s))∧StV m c (ze6 c e k s)∧(ze6 c e k s).Steps=s.Steps∧(ze6 c e k s).Exception=s.Exception∧
 (ze6 c e k s).Registers=s.Registers∧(ze6 c e k s).Storage=s.Storage∧(ze6 c e k s).Lines=s.Lines∧(ze6 c e k s).Condition=s.Condition∧(s.Status=0→(ze6 c e k s).Status=0∨(ze6 c e k s).Status=2)
 | 0,s,_,h,_,_=>by omega
 | k+1,s,hs,h,K,hK=>by
  obtain⟨K,rfl⟩:∃J,K=J+1:=⟨K-1,by omega⟩;have hh:=z2b N hN hc s.At e;have hr:=zaas N hN hc s.At e;have rg:=zut hc s.At e;have h6:=hs.stk;have n240:=hc.len;simp only [zp,za6.r0,za6.b0,zg8.r0,zg8.b0];rw [hh,hr];simp only [obs];unfold ze6
  by_cases h0:0≤zdv c s.At e
  · rw [ifp h0,dct (show zdv c s.At e≥0 by omega),zde,dct (show zdv c s.At e≠-1 by omega)];exact⟨rfl,rfl,hs.updA h0 (by omega),rfl,rfl,rfl,rfl,rfl,rfl,fun h=> .inl h⟩
  · rw [ifn h0,dcf (show ¬zdv c s.At e≥0 by omega),zde,dcf (show ¬zdv c s.At e≠-1 by omega),zbx,w6e (n:=(s.Stack.length:Int)-1)]
    by_cases hz:s.Stack.length=0
    · rw [ifp hz,dct (show(s.Stack.length:Int)-1<0 by omega),dct (show(s.Stack.length:Int)=0 by omega)];exact⟨rfl,rfl,hs.updT (by omega) (by omega),rfl,rfl,rfl,rfl,rfl,rfl,fun _=> .inr rfl⟩
    · have hl:(s.Stack.length:Int)-1=((s.Stack.length-1:Nat):Int):=by omega
      have hx1:s.Stack[s.Stack.length-1]?=some (s.Stack.getD (s.Stack.length-1) 0):=by rw [gdd,lge (by omega)];rfl
      obtain⟨hrr,_⟩:=hs.calls _ (lmg hx1);have hcl:∀l:List Int,l.length≤6→zc6 8 l=some l:=fun l hl=>by unfold zc6;rw [zds (by omega)];rfl
      rw [ifn hz,dcf (show ¬(s.Stack.length:Int)-1<0 by omega),dcf (show ¬(s.Stack.length:Int)=0 by omega),hl,zau,hx1];simp only [cfa,obs];rw [ifp,ifp,ifp,ifp,itn,show(0:Int).toNat=0 from rfl,dr0,hcl _ (by rw [lnt];omega)];simp only [obs];have hs2:StV m c (updK (updA s (s.Stack.getD (s.Stack.length-1) 0)) (s.Stack.take (s.Stack.length-1))):=(hs.updA hrr.1 hrr.2).updK (by rw [lnt];omega) fun i hi2=>hs.calls i (List.mem_of_mem_take hi2);exact zzo N hN hc e he z k _ hs2 (by show(s.Stack.take (s.Stack.length-1)).length<k;rw [lnt];omega) K (by omega)
def zqf (s:zC):zC:=if s.Status=0∧s.Steps=3000 then updT s 3 else s
def zjn (c:zH) (s:zC):zA:=c.zB.getD s.At.toNat ⟨0,0,0,0,0,⟨false,0,0⟩,⟨false,0,0⟩,⟨0,0,0⟩,⟨0,0,0⟩,false,false,⟨0,0⟩,⟨#[]⟩,⟨#[]⟩,0,0,0,0⟩
def zhe (c:zH) (s:zC):zC:=
 match zad (updP s (s.Steps+1)) (zjn c s)with
 | .error e=>zqf (ze6 c e (s.Stack.length+1) (updE (updP s (s.Steps+1)) e))
 | .ok (n,t)=>if t.Status≠0 then t else if n=(c.zB.length:Int)then updT t 1 else zqf (updA t n)
theorem z61 (t:zC):((cond (t.Status==0) (some (t.Steps==3000)) (some false)).bind fun g=>cond g (some (⟨t.Registers,t.Condition,t.Storage,t.At,t.Stack,t.Lines,3,t.Exception,t.Marks,t.Steps⟩:zC)) (some t))=some (zqf t):=by
 unfold zqf
 rw [zbx,zbx]
 by_cases h1:t.Status=0
 · rw [dct h1]
   by_cases h2:t.Steps=3000
   · rw [dct h2,ifp ⟨h1,h2⟩];rfl
   · rw [dcf h2,ifn (fun h=>h2 h.2)];rfl
 · rw [dcf h1,ifn (fun h=>h1 h.1)];rfl
theorem zac6 {t:zC} (h:StV m c t):StV m c (zqf t)∧(zqf t).Steps=t.Steps∧((zqf t).Status=0→t.Steps≠3000):=by
 unfold zqf
 split
 · exact⟨h.updT (by omega) (by omega),rfl,fun h=>by have h':(3:Int)=0:=h;omega⟩
 · rename_i hn;exact⟨h,rfl,fun h1 h2=>hn ⟨h1,h2⟩⟩
theorem zacp (hc:CodeV m c) (h:StV m c s):zs1 s=some s:=by
 have h1:=h.regs
 have h2:=h.stk
 have h3:=h.lines
 have h4:=h.sto.le
 have h5:=h.sto.tags
 have h6:=hc.m2
 unfold zs1 zjg zst
 rw [zds (by omega),ctr,zag0 (by omega),obs,zds (by omega),ctr,obs,zds (by omega)]
 rfl
theorem z3s (N:Nat) (hN:20000<N) (hc:CodeV m c) (hs:StV m c s) (hrun:s.Status=0) (h3:s.Steps<3000):
 zkv N c s=some (zhe c s)∧z1u N c s=some (zhe c s)∧StV m c (zhe c s)∧(zhe c s).Steps=s.Steps+1∧((zhe c s).Status=0→s.Steps+1<3000):=by
 have a0:=hs.at0
 have a1:=hs.at1
 have p0:=hs.sp0
 have hx:c.zB[s.At.toNat]?=some (zjn c s):=by
  unfold zjn;rw [gdd,lge (by omega)];rfl
 have hi:idx c.zB s.At=some (zjn c s):=by unfold idx;rw [ifp a0,hx]
 have hs1:StV m c (updP s (s.Steps+1)):=hs.updP (by omega) (by omega)
 have hb:=zada N hN hc hs1 (x:=zjn c s) hx
 unfold zkv z1u
 rw [hi,zacp hc hs]
 simp only [obs,eS,eC]
 rw [w6e (n:=s.Steps+1)]
 show((ze N ⟨updP s (s.Steps+1),c,0⟩ (zjn c s)).bind _)=_∧((zf N c (updP s (s.Steps+1))).bind _)=_∧_
 unfold zhe
 rcases hb with⟨e,nx,ny,t,g1,g2,g3,g4⟩|⟨n,k,t,g1,g3,g4,g5,g6,g7,g8,g9⟩
 · rw [g1,g3,g4];simp only [obs];have hse:StV m c (updE (updP s (s.Steps+1)) e):=hs1.updE (by omega) (by omega);obtain⟨k1,k2,k3,k4,k5,k6,k7,k8,k9,k10⟩:=zzo N hN hc e (by omega) ⟨[],0,⟨⟨#[]⟩,[]⟩,0,[],[],0,0,0,0⟩ (s.Stack.length+1) _ hse (Nat.lt_succ_self _) N (by have:=hs.stk;omega);rw [zde,dct (show e≠0 by omega)];simp only [ctr];have hf:=zac6 k3;have k4':(ze6 c e (s.Stack.length+1) (updE (updP s (s.Steps+1)) e)).Steps=s.Steps+1:=k4;refine⟨?_,?_,hf.1,hf.2.1.trans k4,fun h=> ?_⟩
   · unfold za6;show((((zp (za6.r0 N) N ⟨updE (updP s (s.Steps+1)) e,c,e⟩).bind _)).bind _)=_;rw [k1];exact z61 _
   · unfold zg8;show((((zp (zg8.r0 N) N (e,c,updE (updP s (s.Steps+1)) e,_)).bind _)).bind _)=_;rw [k2];exact z61 _
   · have:=hf.2.2 h;omega
 · rw [g1,g3,g4];simp only [obs,bsf,cfa];have g8':t.Steps=s.Steps+1:=g8;have e0:(t.Status !=0)=decide (t.Status≠0):=zde _ _;have e1:(t.Status==0)=decide (t.Status=0):=zbx _ _;rw [e0,e1]
   by_cases hst:t.Status=0
   · obtain⟨j1,j2,j3⟩:=g5 hst;subst j1;rw [dct hst,dcf (show ¬t.Status≠0 by omega),ifn (show ¬t.Status≠0 by omega)];simp only [ctr,cfa,zbx]
     by_cases hl:k=(c.zB.length:Int)
     · rw [dct hl,ifp hl];exact⟨rfl,rfl,g6.updT (by omega) (by omega),g8',fun h=>by have h':(1:Int)=0:=h;omega⟩
     · rw [dcf hl,ifn hl];have hta:StV m c (updA t k):=g6.updA (by omega) (by omega);have hf:=zac6 hta;have f1:=z61 (updA t k);rw [zbx,zbx]at f1;have e2:(updA t k).Status=t.Status:=rfl;rw [e2,dct hst]at f1;refine⟨f1,f1,hf.1,hf.2.1.trans g8',fun h=> ?_⟩;have:=hf.2.2 h;have e3:(updA t k).Steps=t.Steps:=rfl;have:=g6.sp1;omega
   · rw [dcf hst,dct (show t.Status≠0 from hst),ifp (show t.Status≠0 from hst)];exact⟨rfl,rfl,g6,g8',fun h=>absurd h hst⟩
end
theorem zai1 {m:zK} {c:zH} {n:Int} (h:zpd m c=(n,0)):(∀x∈c.zB,zmi m c x=0)∧(∀t∈c.zQ,zm2 c t=true)∧n=(c.zB.length:Int):=by
 unfold zpd at h
 cases hf:(List.range c.zB.length).findSome? (gI m c)with
 | some r=>
  rw [hf]at h;simp only at h;subst h;obtain⟨j,_,hj⟩:=eof hf;unfold gI at hj;rw [Option.bind_eq_some_iff]at hj;obtain⟨y,_,hy⟩:=hj
  by_cases h1:zmi m c y=0
  · simp [h1]at hy
  · rw [ifn h1]at hy;simp only [Option.some.injEq,Prod.mk.injEq]at hy;exact absurd hy.2 h1
 | none=>
  rw [hf]at h;simp only at h;have hI:∀x∈c.zB,zmi m c x=0:=fun x hx=>by
   refine cbc fun h0=> ?_;obtain⟨i,hi⟩:=List.getElem?_of_mem hx;rw [List.findSome?_eq_none_iff]at hf;have:=hf i (List.mem_range.2 (gei hi).1);unfold gI at this;rw [hi,obs,ifn h0]at this;cases this
  cases hg:(List.range c.zQ.length).findSome? (gT c)with
  | some r=>
   rw [hg]at h;simp only at h;subst h;obtain⟨j,_,hj⟩:=eof hg;unfold gT at hj;rw [Option.bind_eq_some_iff]at hj;obtain⟨y,_,hy⟩:=hj;split at hy
   · cases hy
   · simp only [Option.some.injEq,Prod.mk.injEq]at hy;cases hy.2
  | none=>
   rw [hg]at h;simp only [Prod.mk.injEq]at h;refine⟨hI,fun t ht=> ?_,h.1.symm⟩;refine cbc fun h0=> ?_;obtain⟨i,hi⟩:=List.getElem?_of_mem ht;rw [List.findSome?_eq_none_iff]at hg;have:=hg i (List.mem_range.2 (gei hi).1);unfold gT at this;rw [hi,obs,ifn h0]at this;cases this
theorem zait {s:Storage} {i:Int} (h:zvf s=(i,0)) (hn:¬true∈s.Tags):zjh s:=by
 unfold zvf at h
 split at h
 · cases h
 · split at h
   · cases h
   · split at h
     · cases h
     · rename_i h1 h2 h3;refine⟨by omega,by omega,by omega,fun k hk=>absurd (lmg hk) hn⟩
theorem zadj (N:Nat) (hN:1048600<N) {m:zK} {c:zH} (hc:Wft En 1048576 Ty.zH c) {n:Int} (h:zam N m c=some (n,0)):CodeV m c∧n=(c.zB.length:Int):=by
 obtain⟨e,_,he2,he3⟩:=zru m
 obtain⟨i1,e1,e2,_,hs2,hs⟩:=zve N (by omega) c.Storage
 have hsp:=(zvd N (by omega) c.Storage).2
 obtain⟨w1,w2,w3,w4,w5⟩:=zkx hc
 unfold zam at h
 try simp only [eS,eM,eC]at h
 rw [he2,hs2]at h
 simp only [obs]at h
 by_cases h0:e=0
 · subst h0;have hm:=he3 rfl;simp only [bsf,cfa]at h
   by_cases h2:e2=0
   · rcases hs with⟨rfl,hs⟩|⟨ok,htl,_,_⟩
     · exact absurd h2 hs
     · subst h2;obtain⟨l,hl1,hl2⟩:=zyz N c.Storage htl (by omega);rw [hl1]at h;simp only [bsf,cfa,obs,orB]at h;cases hd:decide ((l.length:Int)>0)with
       | true=>rw [hd]at h;cases h
       | false=>
        rw [hd]at h hl2;simp only [cfa]at h
        by_cases hz:(c.zB.length:Int)=0
        · rw [hz]at h;cases h
        · rw [zbx,dcf hz]at h;simp only [cfa]at h;cases hb:(decide ((c.zB.length:Int)>240)||decide ((c.zQ.length:Int)>40))with
          | true=>rw [hb]at h;cases h
          | false=>
           rw [hb]at h;simp only [cfa]at h;have:=zvm N hN hm ok hc;rw [this]at h;simp only [Bool.or_eq_false_iff,decide_eq_false_iff_not]at hb;obtain⟨r1,r2,r3⟩:=zai1 (Option.some.inj h);have hn:¬true∈c.Storage.Tags:=fun hh=>by
            have:=List.contains_iff_mem.2 hh;rw [←hl2]at this;cases this
           have hst:∃i,zvf c.Storage=(i,0):=by
            unfold zq3 at hs2
            try simp only [eS]at hs2
            rw [hsp,obs]at hs2;exact⟨(zvf c.Storage).1,by rw [←Option.some.inj hs2]⟩
           obtain⟨i,hi⟩:=hst;exact⟨{m1:=hm.1,m2:=hm.2,sto:=zait hi hn,len:=by omega,pos:=by omega,traps:=by omega,ins:=r1,trap:=r2},r3⟩
   · rw [zde,dct h2]at h;simp only [ctr,Option.some.injEq,Prod.mk.injEq]at h;exact absurd h.2 h2
 · rw [zde,dct h0]at h;simp only [ctr,Option.some.injEq,Prod.mk.injEq]at h;exact absurd h.2 h0
def zml (m:zK) (c:zH):zC:=⟨List.replicate m.Registers.toNat ⟨0,0⟩,0,c.Storage,0,[],[],0,0,0,0⟩
theorem zz1 {m:zK} {c:zH} (hc:CodeV m c):StV m c (zml m c):=by
 have:=hc.m1
 have:=hc.pos
 exact {
  regs:=by show((List.replicate m.Registers.toNat (⟨0,0⟩:Number)).length:Int)=_;rw [lnr];omega
  nums:=fun r hr=>by rw [(List.mem_replicate.1 hr).2];exact⟨⟨by decide,by decide⟩,by decide,by decide⟩
  cnd:= .inl rfl,sto:=hc.sto,size:=rfl,at0:=by show(0:Int)≤0;omega,at1:=by show(0:Int)<_;omega,stk:=by show 0≤6;omega
  calls:=fun i hi=>(List.not_mem_nil hi).elim
  lines:=by show 0≤40;omega
  long:=fun i hi=>(List.not_mem_nil hi).elim
  st0:=by show(0:Int)≤0;omega,st1:=by show(0:Int)≤3;omega,ex0:=by show(0:Int)≤0;omega,ex1:=by show(0:Int)≤999;omega,mk0:=by show(0:Int)≤0;omega,mk1:=by show(0:Int)≤300;omega,sp0:=by show(0:Int)≤0;omega,sp1:=by show(0:Int)≤3000;omega}
theorem zaex (N:Nat) {m:zK} {c:zH} (hc:CodeV m c) (hk:zge N m c=some 0):zj3 N m c=some (zml m c,0):=by
 have:=hc.m1
 have:=hc.m2
 have:=hc.sto.le
 have:=hc.sto.tags
 unfold zj3
 try simp only [eM,eS,eC]
 rw [hk]
 simp only [obs,bsf,cfa]
 have hcl:zc6 1 c.Storage.Tags=some c.Storage.Tags:=by unfold zc6;rw [zds (by omega)];rfl
 rw [hcl,obs,ifp,ifp,zds (by omega)]
 rfl
def zlr (c:zH):Nat→zC→zC
 | 0,s=>s
 | k+1,s=>if s.Status=0 then zlr c k (zhe c s)else s
theorem z5t (N:Nat) (l:List ByteArray) (h:l.length<N) (hl:l.length<1000000):zdz N l l=some true:=by
 unfold zdz
 simp only [bsf,cfa]
 have l1:=zcm (f:=zdz.r0 N) (fun i=>(l,l,(i:Int))) (fun _=>none) l.length
  (fun i hi=>by
   have hx:=lge hi;simp only [zdz.r0,zdz.b0,zau,hx,obs,dct (show(i:Int)<(l.length:Int)by omega),ctr,bst,bnt,cfa];rw [w6e];rfl)
  (by simp only [zdz.r0,zdz.b0,dcf (show ¬(l.length:Int)<(l.length:Int)by omega),cfa]) h
 simp only [nc0]at l1
 rw [l1]
 have:∀l:List Nat,l.findSome? (fun _=>(none:Option Bool))=none:=fun l=>by rw [List.findSome?_eq_none_iff];intros;rfl
 rw [this]
 rfl
theorem zaak (N:Nat) (l:List Bool) (h:l.length<N) (hl:l.length<1000000):ze3 N l l=some true:=by
 unfold ze3
 simp only [bsf,cfa]
 have l1:=zcm (f:=ze3.r0 N) (fun i=>(l,l,(i:Int))) (fun _=>none) l.length
  (fun i hi=>by
   have hx:=lge hi;simp only [ze3.r0,ze3.b0,zau,hx,obs,dct (show(i:Int)<(l.length:Int)by omega),ctr,bst,bnt,cfa];rw [w6e];rfl)
  (by simp only [ze3.r0,ze3.b0,dcf (show ¬(l.length:Int)<(l.length:Int)by omega),cfa]) h
 simp only [nc0]at l1
 rw [l1]
 have:∀l:List Nat,l.findSome? (fun _=>(none:Option Bool))=none:=fun l=>by rw [List.findSome?_eq_none_iff];intros;rfl
 rw [this]
 rfl
theorem zaef (N:Nat) (s:Storage) (h:s.Tags.length<N) (hl:s.Tags.length<1000000):zir N s s=some true:=by
 unfold zir
 rw [bst,ctr,zaak N _ h hl]
 rfl
theorem z8p (N:Nat) (r:zY) (h1:r.Lines.length<N) (h2:r.Lines.length<1000000) (h3:r.Storage.Tags.length<N) (h4:r.Storage.Tags.length<1000000):zhj N r r=some true:=by
 unfold zhj
 try simp only [eS]
 rw [z5t N _ h1 h2,zaef N _ h3 h4]
 simp only [obs,bst,ctr]
def resV (t:zC):zY:=⟨t.Lines,t.Status,t.Exception,t.Marks,t.Steps,t.Storage⟩
theorem zadn {op:Int} {a b:Number} {t:DataType} {half:Bool} (h:(zf5 op a b t half).2=0):zoj t (zf5 op a b t half).1.N:=zzv h
theorem zadi {x:Number} {t:DataType} (h0:0≤t.Scale) (hs:x.Scale=t.Scale) (hf:zoj t x.N) (half:Bool):ziw x t half=(⟨x.N,⟨#[]⟩⟩,0):=by
 unfold ziw z23 zme
 rw [hs]
 have hp:0<10^t.Scale.toNat:=zi3 _
 rw [Nat.mul_div_cancel _ hp,Nat.mul_mod_left]
 simp only [Nat.add_zero]
 rw [dcf (show ¬10^t.Scale.toNat≤0 by omega),Bool.and_false,cfa,Nat.add_zero]
 unfold zoj at hf
 rw [ifn]
 by_cases hn:x.N<0
 · rw [dct hn,ctr];have: -((x.N.natAbs:Nat):Int)=x.N:=by omega
   rw [this]
 · rw [dcf hn,cfa];have:((x.N.natAbs:Nat):Int)=x.N:=by omega
   rw [this]
theorem zadg (n len:Nat):znl n (len+1)=znl (n/10) len++[((n%10:Nat):Int)]:=by
 unfold znl
 rw [List.range_succ,List.map_append]
 congr 1
 · refine List.map_congr_left fun j hj=> ?_;have hj:=List.mem_range.1 hj;rw [show len+1-1-j=(len-1-j)+1 by omega,Nat.pow_succ',←Nat.div_div_eq_div_mul]
 · simp
theorem z38:∀(len n:Nat),ze9 (znl n len)=((n%10^len:Nat):Int)
 | 0,n=>by simp [znl,ze9,Nat.mod_one]
 | len+1,n=>by
  rw [zadg,zrw,z38 len (n/10),Nat.pow_succ',Nat.mod_mul];omega
theorem z4i {z d:List Int} {len g:Int} (hz:∀x∈z,x=0) (hd:∀x∈d,0≤x∧x≤9) (hl:(d.length:Int)=len) (hg:10≤g):z3d (z++d++[g]) len=some (if g=11∨g=13 then-ze9 d else ze9 d):=by
 have hlen:(z++d++[g]).length=z.length+d.length+1:=by simp;omega
 have hs:zts (z++d++[g])=g:=by
  unfold zts;rw [hlen,gdd,List.getElem?_append_right (by simp)];simp
 have ht:(z++d++[g]).take ((z++d++[g]).length-1)=z++d:=by
  rw [hlen,List.take_append_of_le_length (by simp)];rw [List.take_of_length_le (by simp)]
 unfold z3d
 rw [hs,ht,zyc,zt6 z hz,Int.zero_mul,Int.zero_add]
 refine ifn ?_
 rintro (h|h)
 · obtain⟨i,hi,hb⟩:=List.any_eq_true.1 h;have hi:i<z.length+d.length:=by
    have:=List.mem_range.1 hi;omega
   unfold zri at hb;rw [hlen,gdd,List.getElem?_append_left (by simp;omega)]at hb
   by_cases hiz:i<z.length
   · rw [List.getElem?_append_left hiz,lge hiz,hz _ (List.getElem_mem hiz)]at hb;simp at hb
   · rw [List.getElem?_append_right (by omega),lge (by omega)]at hb;have:=hd _ (List.getElem_mem (show i-z.length<d.length by omega));simp only [Option.getD_some,Bool.or_eq_true,Bool.and_eq_true,decide_eq_true_eq]at hb;omega
 · omega
theorem zx2 {x:Int} (h0:0≤x) (h1:x<256):((UInt8.ofNat x.toNat).toNat:Int)=x:=by
 rw [UInt8.toNat_ofNat']
 omega
theorem z32:∀(n:Nat) (l:List Int),l.length=2*n→(∀d∈l,0≤d∧d<16)→zkt ((zoe l).map fun x=>UInt8.ofNat x.toNat)=l
 | 0,l,hl,_=>by
  have:l=[]:=List.length_eq_zero_iff.1 (by omega);subst this;rfl
 | n+1,[],hl,_=>by simp at hl
 | n+1,[x],hl,_=>by simp at hl;omega
 | n+1,a::b::l,hl,hd=>by
  have ha:=hd a (by simp);have hb:=hd b (by simp);have ih:=z32 n l (by simp at hl;omega) fun d h=>hd d (by simp [h]);have e:=zx2 (x:=16*a+b) (by omega) (by omega);show zkt (UInt8.ofNat (16*a+b).toNat::(zoe l).map fun x=>UInt8.ofNat x.toNat)=_;unfold zkt at ih⊢;rw [List.flatMap_cons,ih];have e1:(((UInt8.ofNat (16*a+b).toNat).toNat/16:Nat):Int)=a:=by omega
  have e2:(((UInt8.ofNat (16*a+b).toNat).toNat%16:Nat):Int)=b:=by omega
  rw [e1,e2];rfl
theorem zaeu {d:List Int} (h0:0<d.length) (hd:∀x∈d,0≤x∧x≤9) (neg:Bool):zng ((z2m d neg).map fun x=>UInt8.ofNat x.toNat)=d++[cond neg 13 15]:=by
 have hs:=z15 h0
 have hlast:=hd _ (lmg (show d[d.length-1]?=some (d.getD (d.length-1) 0)by rw [gdd,lge (by omega)];rfl))
 have hpre:∀x∈d.take (d.length-1),0≤x∧x≤9:=fun x hx=>hd x (List.mem_of_mem_take hx)
 unfold z2m
 generalize d.getD (d.length-1) 0=y at*
 generalize d.take (d.length-1)=p at*
 subst hs
 have hl:((p.map (· +240)++[y+cond neg 208 240]).map fun x:Int=>UInt8.ofNat x.toNat)=(p.map fun x:Int=>UInt8.ofNat (x+240).toNat)++[UInt8.ofNat (y+cond neg 208 240).toNat]:=by simp
 rw [hl]
 have hc:(cond neg 208 240:Int)=208∨(cond neg 208 240:Int)=240:=by cases neg<;>simp
 have ey:=zx2 (x:=y+cond neg 208 240) (by omega) (by omega)
 unfold zng zrg
 rw [List.map_append,List.map_map]
 have e1:p.map ((fun b:UInt8=>((b.toNat%16:Nat):Int))∘fun x=>UInt8.ofNat (x+240).toNat)=p:=by
  conv=>rhs;rw [←List.map_id p]
  refine List.map_congr_left fun x hx=> ?_;have:=hpre x hx;have e:=zx2 (x:=x+240) (by omega) (by omega);show(((UInt8.ofNat (x+240).toNat).toNat%16:Nat):Int)=x;omega
 rw [e1]
 have e2:((p.map fun x=>UInt8.ofNat (x+240).toNat)++[UInt8.ofNat (y+cond neg 208 240).toNat]).getD (((p.map fun x=>UInt8.ofNat (x+240).toNat)++[UInt8.ofNat (y+cond neg 208 240).toNat]).length-1) 0=UInt8.ofNat (y+cond neg 208 240).toNat:=by
  rw [gdd,List.getElem?_append_right (by simp)];simp
 rw [e2,List.map_singleton]
 have e3:(((UInt8.ofNat (y+cond neg 208 240).toNat).toNat%16:Nat):Int)=y:=by cases neg<;>simp only [ctr,cfa]at ey⊢<;>omega
 have e4:(((UInt8.ofNat (y+cond neg 208 240).toNat).toNat/16:Nat):Int)=cond neg 13 15:=by cases neg<;>simp only [ctr,cfa]at ey⊢<;>omega
 rw [e3,e4]
theorem z8c (l:List Int):bl (zhq l)=l.map fun n=>UInt8.ofNat n.toNat:=rfl
theorem zahr {t:DataType} (ht:zi5 t) {n:Int} (hn:zoj t n):zlk t (zou t n)=some n:=by
 obtain⟨⟨l1,l2⟩,_,_⟩:=zhz ht
 have hn2:=hn
 unfold zoj at hn2
 have hd:∀x∈znl n.natAbs t.Length.toNat,0≤x∧x≤9:=zwj
 have hdl:(znl n.natAbs t.Length.toNat).length=t.Length.toNat:=zwk _ _
 have hfd:ze9 (znl n.natAbs t.Length.toNat)=(n.natAbs:Int):=by
  rw [z38,mel (by omega)]
 unfold zlk zou
 by_cases hk:t.Kind=3
 · rw [ifp hk,ifp hk];have hs:((szE t).toNat=2∧t.Length=4)∨((szE t).toNat=4∧t.Length=9):=by
    have h0:=ht.1;rw [zyw ht,ifn,ifp hk];unfold zce at h0;rw [ifn,ifn,ifp hk]at h0;split at h0
    · rename_i h;rcases h with h|h<;>rw [h]<;>simp
    · cases h0
   have key:∀k:Nat,(k=2∧t.Length=4)∨(k=4∧t.Length=9)→zm0 (bl (zhq (z7o n k)))=n:=by
    intro k hk2;have hp:(10^t.Length.toNat:Nat)≤128*256^(k-1)∧0<k:=by
     rcases hk2 with⟨rfl,e⟩|⟨rfl,e⟩<;>rw [e]<;>decide
    obtain⟨m,hm,hml⟩:∃m:Nat,((m:Int)=n∨(m:Int)=n+(256^k:Nat))∧m<256^k∧(n<0↔128*256^(k-1)≤m):=by
     have h256:256^k=256*256^(k-1):=by
      rw [←Nat.pow_succ']
      congr 1
      omega
     have h1:0<256^(k-1):=Nat.pow_pos (by decide)
     by_cases hneg:n<0
     · refine⟨(n+(256^k:Nat)).toNat,.inr ?_,?_,?_⟩<;>omega
     · refine⟨n.toNat,.inl ?_,?_,?_⟩<;>omega
    rw [←zae5 n k m hm,z8c];unfold zm0;rw [z03,mel hml.1,lnm,z02];have hh:((zb4 m k).map fun n=>UInt8.ofNat n.toNat).getD 0 0=UInt8.ofNat (m/256^(k-1)):=by
     rw [gdd,List.getElem?_map];unfold zb4;rw [List.getElem?_map,List.getElem?_range (by omega)];simp only [Option.map_some,Option.getD_some,Nat.sub_zero,itn];have:m/256^(k-1)<256:=by
      rw [Nat.div_lt_iff_lt_mul (Nat.pow_pos (by decide)),←Nat.pow_succ',show(k-1).succ=k by omega];exact hml.1
     rw [mel this]
    rw [hh,UInt8.toNat_ofNat'];have hlt:m/256^(k-1)<256:=by
     rw [Nat.div_lt_iff_lt_mul (Nat.pow_pos (by decide)),←Nat.pow_succ',show(k-1).succ=k by omega];exact hml.1
    rw [mel hlt];have hiff:128≤m/256^(k-1)↔128*256^(k-1)≤m:=Nat.le_div_iff_mul_le (Nat.pow_pos (by decide))
    by_cases hneg:n<0
    · rw [ifp (hiff.2 (hml.2.1 hneg))];have:=hml.1;omega
    · rw [ifn fun h=>hneg (hml.2.2 (hiff.1 h))];have:=hml.1;omega
   rw [key _ hs,ifp hn2]
 · rw [ifn hk,ifn hk];have hk12:t.Kind=1∨t.Kind=2:=by have:=ht.2;omega
   by_cases hk2:t.Kind=2
   · rw [ifn,ifp hk2,z8c,zaeu (by omega) hd,←List.nil_append (znl _ _),z4i (by simp) hd (by omega) (by cases decide (n<0)<;>decide),hfd]
     by_cases hneg:n<0
     · rw [dct hneg];simp only [ctr];rw [ifp (by decide)]
       congr 1
       omega
     · rw [dcf hneg];simp only [cfa];rw [ifn (by decide)]
       congr 1
       omega
   · have hk1:t.Kind=1:=by omega
     have hpl:=zvx (t:=t) l1 n;rw [ifp hk1,ifn hk2,z8c,z32 _ _ hpl.1 hpl.2];unfold z0l;rw [z4i (z:=if t.Length%2=0 then [0]else []) (fun x hx=>by split at hx<;>simp at hx;exact hx) hd (by omega) (by split<;>decide),hfd]
     by_cases hneg:n<0
     · rw [ifp hneg,ifp (by decide)]
       congr 1
       omega
     · rw [ifn hneg,ifn (by decide)]
       congr 1
       omega
variable {m:zK} {c:zH} {s t:zC}
structure zjr (s:zC) (f:zD):Prop where
 sc:(rg s f.Register).Scale=f.zF.Scale
 ft:zoj f.zF (rg s f.Register).N
 mem:f.Offset= -1∨zlk f.zF (s.Storage.Bytes.extract f.Offset.toNat (f.Offset+szE f.zF).toNat)=some (rg s f.Register).N
theorem zak8 {i j:Int} (n:Number) (hi:0≤i) (hj:0≤j) (h:j≠i):rg (updR s i n) j=rg s j:=by
 unfold rg updR
 simp only [gdd]
 rw [List.getElem?_set_ne (by omega)]
theorem zaap {i:Int} (n:Number) (hi:i.toNat<s.Registers.length):rg (updR s i n) i=n:=by
 unfold rg updR
 simp only [gdd]
 rw [List.getElem?_set_self hi]
 rfl
theorem zjr.keep {f:zD} (h:zjr s f) (h1:rg t f.Register=rg s f.Register) (h2:f.Offset= -1∨t.Storage.Bytes.extract f.Offset.toNat (f.Offset+szE f.zF).toNat=s.Storage.Bytes.extract f.Offset.toNat (f.Offset+szE f.zF).toNat):zjr t f:=by
 refine⟨by rw [h1];exact h.sc,by rw [h1];exact h.ft,?_⟩
 rcases h2 with h2|h2
 · exact .inl h2
 · rcases h.mem with h3|h3
   · exact .inl h3
   · exact .inr (by rw [h1,h2];exact h3)
theorem zjr.same {f:zD} (h:zjr s f) (h1:t.Registers=s.Registers) (h2:t.Storage=s.Storage):zjr t f:=h.keep (by unfold rg;rw [h1]) (.inr (by rw [h2]))
theorem z26 {t:DataType} (h:zce t=0) (h0:t.Kind≠0) (h4:t.Kind≠4):zi5 t:=by
 refine⟨h,?_⟩
 rcases zl6 h with⟨h1,_⟩|⟨h1|h1,_⟩|⟨h1,_⟩|⟨h1,_⟩<;>omega
theorem zad2 {s:Storage} {a:Nat} {d:ByteArray} (h:a+d.size≤s.Bytes.size) {i j:Nat} (hij:i≤j) (hd:j≤a∨a+d.size≤i):(wrV s a d).Bytes.extract i j=s.Bytes.extract i j:=by
 apply znn
 rw [zgp,zgp,List.drop_take,List.drop_take]
 exact z7x (l:=bl s.Bytes) (d:=bl d) h i (j-i) (by show i+(j-i)≤a∨a+d.size≤i;omega)
theorem zaij {s:Storage} {a:Nat} {d:ByteArray} (h:a+d.size≤s.Bytes.size):(wrV s a d).Bytes.extract a (a+d.size)=d:=by
 apply znn
 rw [zgp,List.drop_take,Nat.add_sub_cancel_left]
 exact zab4 (l:=bl s.Bytes) (d:=bl d) h
theorem ex0 {x:zA} (h:x.Op=0):zad s x=match zor s.Storage x.Place x.zF with| .error e=> .error e| .ok n=> .ok (s.At+1,updR s x.R n):=by unfold zad;rw [h];rfl
theorem ex1 {x:zA} (h:x.Op=1):zad s x=if(ziw (rg s x.R) x.zF x.Half).2≠0 then .error 2 else match zfa s.Storage x.Place (szE x.zF)with| .error e=> .error e| .ok a=> .ok (s.At+1,updS s (wrV s.Storage a.toNat (zou x.zF (ziw (rg s x.R) x.zF x.Half).1.N))):=by unfold zad;rw [h];rfl
theorem ex2 {x:zA} (h:x.Op=2):zad s x= .ok (s.At+1,updR s x.R x.Number):=by unfold zad;rw [h];rfl
theorem ex3 {x:zA} (h:x.Op=3):zad s x= .ok (s.At+1,updR s x.R (rg s x.A)):=by unfold zad;rw [h];rfl
theorem ex4 {x:zA} (h:x.Op=4):zad s x=match(if x.zO=true then zor s.Storage x.Place x.Second else .ok (rg s x.B))with
 | .error e=> .error e
 | .ok b=>if(zf5 x.zM (rg s x.A) b x.zF false).2=20 then .error 3 else if(zf5 x.zM (rg s x.A) b x.zF false).2≠0 then .error 2 else .ok (s.At+1,updR s x.R ⟨(zf5 x.zM (rg s x.A) b x.zF false).1.N,x.zF.Scale⟩):=by unfold zad;rw [h];rfl
theorem ex5 {x:zA} (h:x.Op=5):zad s x= .ok (s.At+1,updC s (zke s x.A x.B)):=by unfold zad;rw [h];rfl
theorem ex6 {x:zA} (h:x.Op=6):zad s x= .ok (cond (zg .i64 s.Condition x.Mask !=0) x.Target (s.At+1),s):=by unfold zad;rw [h];rfl
theorem ex7 {x:zA} (h:x.Op=7):zad s x= .ok (cond (zg .i64 (zke s x.A x.B) x.Mask !=0) x.Target (s.At+1),s):=by unfold zad;rw [h];rfl
theorem ex8 {x:zA} (h:x.Op=8):zad s x= .ok (x.Target,s):=by unfold zad;rw [h];rfl
theorem ex9 {x:zA} (h:x.Op=9):zad s x=match zgz s.Storage x.From x.Second with
 | .error e=> .error e
 | .ok b=>match zfa s.Storage x.Place (szE x.zF)with| .error e=> .error e| .ok a=> .ok (s.At+1,updS s (wrV s.Storage a.toNat (zle b x.zF.Length.toNat))):=by unfold zad;rw [h];rfl
theorem z7l {x:zA} (h:x.Op=10):zad s x=match zfa s.Storage x.Place (szE x.zF)with| .error e=> .error e| .ok a=> .ok (s.At+1,updS s (wrV s.Storage a.toNat (zle x.Text x.zF.Length.toNat))):=by unfold zad;rw [h];rfl
theorem z7k {x:zA} (h:x.Op=11):zad s x=match zgz s.Storage x.Place x.zF with
 | .error e=> .error e
 | .ok a=>match zgz s.Storage x.From x.Second with| .error e=> .error e| .ok b=> .ok (s.At+1,updC s (zm8 a b)):=by unfold zad;rw [h];rfl
theorem z7j {x:zA} (h:x.Op=12):zad s x=match zgz s.Storage x.Place x.zF with| .error e=> .error e| .ok a=> .ok (s.At+1,updC s (zm8 a x.Text)):=by unfold zad;rw [h];rfl
theorem z7i {x:zA} (h:x.Op=13):zad s x= .ok (s.At+1,updC s (zm8 x.Text x.Other)):=by unfold zad;rw [h];rfl
theorem z7h {x:zA} (h:x.Op=14):zad s x=match zfa s.Storage x.Place (szE x.zF)with| .error e=> .error e| .ok a=> .ok (s.At+1,updS s (stV s.Storage x.Pointer.toNat a.toNat)):=by unfold zad;rw [h];rfl
theorem z7g {x:zA} (h:x.Op=15):zad s x=match ldV s.Storage x.Source with|none=> .error 4|some o=> .ok (s.At+1,updS s (stV s.Storage x.Pointer.toNat o.toNat)):=by unfold zad;rw [h];rfl
theorem z7f {x:zA} (h:x.Op=16):zad s x=match ldV s.Storage x.Pointer with
 | none=> .error 4
 | some o=>if inB (o+zfu (rg s x.R)) 0 16777215=true then .ok (s.At+1,updS s (stV s.Storage x.Pointer.toNat (o+zfu (rg s x.R)).toNat))else .error 5:=by unfold zad;rw [h];rfl
theorem z7e {x:zA} (h:x.Op=17):zad s x=match ldV s.Storage x.Pointer with|none=> .error 4|some _=> .ok (s.At+1,s):=by unfold zad;rw [h];rfl
theorem z7d {x:zA} (h:x.Op=18):zad s x=if 6≤s.Stack.length then .error 6 else .ok (x.Target,updK s (s.Stack++[s.At])):=by unfold zad;rw [h];rfl
theorem z7c {x:zA} (h:x.Op=19):zad s x=if s.Stack.length=0 then .ok (s.At,updT s 1)else .ok (s.Stack.getD (s.Stack.length-1) 0+1,updK s (s.Stack.take (s.Stack.length-1))):=by unfold zad;rw [h];rfl
theorem z7b {x:zA} (h:x.Op=20):zad s x=if inB (zfu (rg s x.R)) 100 999=true then .error (zfu (rg s x.R))else .error 2:=by unfold zad;rw [h];rfl
theorem z7a {x:zA} (h:x.Op=21):zad s x= .ok (s.At+1,updR s x.R ⟨s.Exception,0⟩):=by unfold zad;rw [h];rfl
theorem z69 {x:zA} (h:x.Op=22):zad s x=zig s (zql (rg s x.R)):=by unfold zad;rw [h];rfl
theorem z68 {x:zA} (h:x.Op=23):zad s x=match zgz s.Storage x.Place x.zF with| .error e=> .error e| .ok b=>zig s b:=by unfold zad;rw [h];rfl
theorem z67 {x:zA} (h:x.Op=24):zad s x=zig s x.Text:=by unfold zad;rw [h];rfl
theorem z65 {x:zA} (h:x.Op=25):zad s x=if s.Marks=300 then .ok (s.At+1,updT s 3)else .ok (s.At+1,updM s (s.Marks+1)):=by unfold zad;rw [h];rfl
theorem z64 {x:zA} (h:x.Op=26):zad s x= .ok (s.At+1,updT s 1):=by unfold zad;rw [h];rfl
theorem znv {l:ByteArray} {n:Int} (h:zig s l= .ok (n,t)):n=s.At+1∧t.Registers=s.Registers∧t.Storage=s.Storage∧t.Stack=s.Stack:=by
 unfold zig at h
 split at h<;>cases h<;>exact⟨rfl,rfl,rfl,rfl⟩
theorem zae3 {x:zA} (hop:0≤x.Op∧x.Op≤26) (h0:x.Op≠0) (h4:x.Op≠4) (h2:¬(x.Op=2∨x.Op=21)) (h3:x.Op≠3) (h1:¬(x.Op=1∨x.Op=9∨x.Op=10)) (h14:¬(x.Op=14∨x.Op=15∨x.Op=16)) {n:Int} (h:zad s x= .ok (n,t)):t.Registers=s.Registers∧t.Storage=s.Storage:=by
 rcases(by omega:x.Op=5∨x.Op=6∨x.Op=7∨x.Op=8∨x.Op=11∨x.Op=12∨x.Op=13∨x.Op=17∨x.Op=18∨x.Op=19∨x.Op=20∨x.Op=22∨x.Op=23∨x.Op=24∨x.Op=25∨x.Op=26)with e|e|e|e|e|e|e|e|e|e|e|e|e|e|e|e
 · rw [ex5 e]at h;cases h;exact⟨rfl,rfl⟩
 · rw [ex6 e]at h;cases h;exact⟨rfl,rfl⟩
 · rw [ex7 e]at h;cases h;exact⟨rfl,rfl⟩
 · rw [ex8 e]at h;cases h;exact⟨rfl,rfl⟩
 · rw [z7k e]at h;split at h
   · cases h
   · split at h<;>cases h;exact⟨rfl,rfl⟩
 · rw [z7j e]at h;split at h<;>cases h;exact⟨rfl,rfl⟩
 · rw [z7i e]at h;cases h;exact⟨rfl,rfl⟩
 · rw [z7e e]at h;split at h<;>cases h;exact⟨rfl,rfl⟩
 · rw [z7d e]at h;split at h<;>cases h;exact⟨rfl,rfl⟩
 · rw [z7c e]at h;split at h<;>cases h<;>exact⟨rfl,rfl⟩
 · rw [z7b e]at h;split at h<;>cases h
 · rw [z69 e]at h;have:=znv h;exact⟨this.2.1,this.2.2.1⟩
 · rw [z68 e]at h;split at h
   · cases h
   · have:=znv h;exact⟨this.2.1,this.2.2.1⟩
 · rw [z67 e]at h;have:=znv h;exact⟨this.2.1,this.2.2.1⟩
 · rw [z65 e]at h;split at h<;>cases h<;>exact⟨rfl,rfl⟩
 · rw [z64 e]at h;cases h;exact⟨rfl,rfl⟩
theorem zag7 {s:Storage} {p:zN} {t:DataType} {n:Number} (h:zor s p t= .ok n):∃a,zfa s p (szE t)= .ok a∧n.Scale=t.Scale∧zlk t (s.Bytes.extract a.toNat (a+szE t).toNat)=some n.N:=by
 unfold zor zgz at h
 cases ha:zfa s p (szE t)with
 | error e=>rw [ha]at h;cases h
 | ok a=>
  rw [ha]at h;simp only at h;cases hd:zlk t (s.Bytes.extract a.toNat (a+szE t).toNat)with
  | none=>rw [hd]at h;cases h
  | some k=>rw [hd]at h;cases h;exact⟨a,rfl,rfl,hd⟩
theorem zrc {s:Storage} {p:zN} {n:Int} (h:p.Based=false):zfa s p n= .ok p.Offset:=by
 unfold zfa
 rw [ifn (by rw [h];decide)]
theorem z4o {a b:Int} {f:zD} (ha:0≤a) (ha2:a≤2000) (hb:0≤b) (hb2:b≤2000) (hs:0<szE f.zF∧szE f.zF≤256) (ho:f.Offset= -1∨(0≤f.Offset∧f.Offset≤2000)) (h:apB a b f=false):f.Offset= -1∨a+b≤f.Offset∨f.Offset+szE f.zF≤a:=by
 unfold apB at h
 rw [w6e (n:=a+b),w6e (n:=f.Offset+szE f.zF)]at h
 simp only [Bool.and_eq_false_iff,decide_eq_false_iff_not,bne_eq_false_iff_eq]at h
 omega
variable {m:zK} {c:zH} {s t:zC}
theorem zr3 {s:Storage} (h:zjh s) {p:zN} {n:Int} (hp:zc8 s p n=true) {a:Int} (ha:zfa s p n= .ok a):0≤a∧a+n≤(s.Bytes.size:Int):=by
 unfold zc8 at hp
 unfold zfa at ha
 by_cases hb:p.Based=true
 · rw [ifp hb]at hp ha;rw [Bool.and_eq_true]at hp;have hp3:=zay.1 hp.2;cases hl:ldV s p.Pointer with
   | none=>rw [hl]at ha;cases ha
   | some o=>
    have ho:=zs8 h hl;rw [hl]at ha;simp only at ha;split at ha
    · cases ha
    · cases ha;omega
 · rw [ifn hb]at hp ha;have hp3:=zay.1 hp;cases ha;omega
theorem zye {f:zD} (h:FctV m c f):(0<szE f.zF∧szE f.zF≤256)∧zi5 f.zF:=⟨zh4 h.ty,z26 h.ty h.kd.1 h.kd.2⟩
theorem zv8 {f:zD} (hv:FctV m c f) (hs:s.Storage.Bytes.size=c.Storage.Bytes.size) (h:zjr s f) {a:Nat} {d:ByteArray} (hd:a+d.size≤s.Storage.Bytes.size) {T:Storage} (hT:T.Bytes=(wrV s.Storage a d).Bytes)
 (ho:f.Offset= -1∨(a:Int)+(d.size:Int)≤f.Offset∨f.Offset+szE f.zF≤(a:Int)):zjr (updS s T) f:=by
 have hz:=(zye hv).1
 refine h.keep rfl ?_
 rcases hv.of with h1|h1
 · exact .inl h1
 · right;show T.Bytes.extract _ _=_;rw [hT];exact zad2 hd (by omega) (by omega)
theorem zafg (hc:CodeV m c) (hs:StV m c s) {x:zA} (hx:x∈c.zB) {l:List zD} (hl:∀f∈l,FctV m c f∧zjr s f) {n:Int} (h:zad s x= .ok (n,t)) {f:zD} (hf:Beh x l f):zjr t f:=by
 have ix:=z41 (hc.ins x hx)
 have hz:=hs.size
 have hle:=hs.sto.le
 have regs:=hs.regs
 have keepR:∀{g:zD} {k:Number},g∈l→g.Register≠x.R→0≤x.R→zjr (updR s x.R k) g:=fun {g k} hg hne h0=>(hl g hg).2.keep (zak8 k h0 (hl g hg).1.r.1 hne) (.inr rfl)
 unfold Beh at hf
 split at hf
 · rename_i hop;have hr:=ix.r (by omega);have hT:=z26 (ix.ty (by omega)) (ix.kd (by omega)).1 (ix.kd (by omega)).2;have iv:=zgc hc hx hop (U:=⟨true,false,false,true,false,false,false,false,false,false,false,false,false,false,1,0⟩) rfl;have hpl:=iv.pl rfl;rw [show zd4 x=x.zF by unfold zd4;rw [ifn],←zfj hz]at hpl;rw [ex0 hop]at h;cases hn:zor s.Storage x.Place x.zF with
   | error e=>rw [hn]at h;cases h
   | ok k=>
    rw [hn]at h;cases h;obtain⟨a,ha,hsc,hd⟩:=zag7 hn;have har:=zr3 hs.sto hpl ha;have hsz:=zh4 hT.1;have hbs:((s.Storage.Bytes.extract a.toNat (a+szE x.zF).toNat).size:Int)=szE x.zF:=by rw [ByteArray.size_extract];omega
    have hfit:=z71 hT hbs hd;have hk:rg (updR s x.R k) x.R=k:=zaap k (by omega);have about:∀(g:zD),(k.Scale=g.zF.Scale∧zoj g.zF k.N∧(g.Offset= -1∨zlk g.zF (s.Storage.Bytes.extract g.Offset.toNat (g.Offset+szE g.zF).toNat)=some k.N))→zjr (updR s x.R k) ⟨x.R,g.zF,g.Offset⟩:=fun g hg=>by
     refine⟨?_,?_,?_⟩
     · show(rg (updR s x.R k) x.R).Scale=_;rw [hk];exact hg.1
     · show zoj g.zF (rg (updR s x.R k) x.R).N;rw [hk];exact hg.2.1
     · show g.Offset= -1∨zlk g.zF (s.Storage.Bytes.extract g.Offset.toNat (g.Offset+szE g.zF).toNat)=some (rg (updR s x.R k) x.R).N;rw [hk];exact hg.2.2
    rcases hf with⟨h1,h2⟩|h1|⟨hb,h1|⟨g',hg',ht',ho',g,hg,hgr,h1⟩⟩
    · exact keepR h1 h2 hr.1
    · subst h1;exact about ⟨x.R,x.zF,-1⟩ ⟨hsc,hfit,.inl rfl⟩
    · subst h1;rw [zrc hb]at ha;cases ha;exact about ⟨x.R,x.zF,x.Place.Offset⟩ ⟨hsc,hfit,.inr hd⟩
    · subst h1;rw [zrc hb]at ha;cases ha;have hp0:=ix.pl (by omega) hb;obtain⟨v1,q1⟩:=hl g' hg';obtain⟨v2,q2⟩:=hl g hg;have e1:=q1.mem;rw [ho',ht']at e1;have e2:some k.N=some (rg s g'.Register).N:=by
       rcases e1 with e1|e1
       · omega
       · rw [←hd,←e1]
      have e3:rg s g'.Register=k:=by
       have e4:(rg s g'.Register).N=k.N:=(Option.some.inj e2).symm;have e5:(rg s g'.Register).Scale=k.Scale:=by rw [q1.sc,ht',hsc]
       cases hq:rg s g'.Register with
       | mk a b=>
        cases k with
        | mk a' b'=>
         rw [hq]at e4 e5;simp only at e4 e5;rw [e4,e5]
      have e6:rg s g.Register=k:=by rw [hgr];exact e3
      refine about g ⟨?_,?_,?_⟩
      · rw [←e6];exact q2.sc
      · rw [←e6];exact q2.ft
      · rw [←e6];exact q2.mem
 · rename_i h0;split at hf
   · rename_i hop;have hr:=ix.r (by omega);rw [ex4 hop]at h;split at h
     · cases h
     · rename_i b hb;split at h
       · cases h
       · split at h
         · cases h
         · rename_i h20 hz0;cases h;have hfit:=zadn (Decidable.not_not.1 hz0);rcases hf with⟨h1,h2⟩|h1
           · exact keepR h1 h2 hr.1
           · subst h1;have hk:rg (updR s x.R ⟨(zf5 x.zM (rg s x.A) b x.zF false).1.N,x.zF.Scale⟩) x.R=⟨(zf5 x.zM (rg s x.A) b x.zF false).1.N,x.zF.Scale⟩:=zaap _ (by omega);refine⟨?_,?_,.inl rfl⟩
             · show(rg _ x.R).Scale=_;rw [hk]
             · show zoj _ (rg _ x.R).N;rw [hk];exact hfit
   · rename_i h4;split at hf
     · rename_i hop;have hr:=ix.r (by omega);rcases hop with hop|hop
       · rw [ex2 hop]at h;cases h;exact keepR hf.1 hf.2 hr.1
       · rw [z7a hop]at h;cases h;exact keepR hf.1 hf.2 hr.1
     · rename_i h2;split at hf
       · rename_i hop;have hr:=ix.r (by omega);rw [ex3 hop]at h;cases h;rcases hf with⟨h1,h2⟩|⟨g,hg,hgr,h1⟩
         · exact keepR h1 h2 hr.1
         · subst h1;have q:=(hl g hg).2;rw [←hgr];have hk:rg (updR s x.R (rg s g.Register)) x.R=rg s g.Register:=zaap _ (by omega);refine⟨?_,?_,?_⟩
           · show(rg _ x.R).Scale=_;rw [hk];exact q.sc
           · show zoj _ (rg _ x.R).N;rw [hk];exact q.ft
           · show g.Offset= -1∨zlk g.zF (s.Storage.Bytes.extract g.Offset.toNat (g.Offset+szE g.zF).toNat)=some (rg (updR s x.R (rg s g.Register)) x.R).N;rw [hk];exact q.mem
       · rename_i h3;split at hf
         · rename_i hop;have hty:=ix.ty (by omega);have hsz:=zh4 hty;have wr:∀(a:Int) (d:ByteArray),zfa s.Storage x.Place (szE x.zF)= .ok a→(d.size:Int)=szE x.zF→a.toNat+d.size≤s.Storage.Bytes.size→t=updS s (wrV s.Storage a.toNat d)→(x.Place.Based=false→0≤a)→
            ((x.Place.Based=true∧f∈l∧f.Offset= -1)∨(x.Place.Based=false∧f∈l∧apB x.Place.Offset (szE x.zF) f=false))→zjr t f:=by
            intro a d ha hd hin ht ha0 hq;subst ht;rcases hq with⟨_,hm,ho⟩|⟨hb,hm,hap⟩
            · exact zv8 (hl f hm).1 hz (hl f hm).2 hin rfl (.inl ho)
            · rw [zrc hb]at ha;cases ha;have hv:=(hl f hm).1;have hp0:=ix.pl (by omega) hb;have:=z4o hp0.1 (by omega) (by omega) (by omega) (zye hv).1 (by have:=hv.of;have:=(zye hv).1;omega) hap;exact zv8 hv hz (hl f hm).2 hin rfl (by omega)
           rcases hop with hop|hop|hop
           · have iv:=zgc hc hx hop (U:=⟨true,false,false,true,false,true,false,false,false,false,false,false,false,false,1,0⟩) rfl;have hpl:=iv.pl rfl;rw [show zd4 x=x.zF by unfold zd4;rw [ifn],←zfj hz]at hpl;have hT:=z26 hty (ix.kd (by omega)).1 (ix.kd (by omega)).2;rw [ex1 hop]at h;split at h
             · cases h
             · rename_i hcv;cases ha:zfa s.Storage x.Place (szE x.zF)with
               | error e=>rw [ha]at h;cases h
               | ok a=>
                rw [ha]at h;cases h;have har:=zr3 hs.sto hpl ha;have hd:=z4e hT (ziw (rg s x.R) x.zF x.Half).1.N;rcases hf with hf|⟨hb,hf|⟨_,hm,hf⟩⟩
                · exact wr a _ ha hd (by omega) rfl (fun _=>har.1) (.inl hf)
                · exact wr a _ ha hd (by omega) rfl (fun _=>har.1) (.inr ⟨hb,hf⟩)
                · subst hf;rw [zrc hb]at ha;cases ha;have q:=(hl _ hm).2;have hcs:=zadi (zhz hT).2.1 q.sc q.ft x.Half;have hcs:ziw (rg s x.R) x.zF x.Half=(⟨(rg s x.R).N,⟨#[]⟩⟩,0):=hcs;refine⟨q.sc,q.ft,.inr ?_⟩;show zlk x.zF ((wrV s.Storage x.Place.Offset.toNat (zou x.zF (ziw (rg s x.R) x.zF x.Half).1.N)).Bytes.extract x.Place.Offset.toNat (x.Place.Offset+szE x.zF).toNat)=some (rg s x.R).N;rw [show(x.Place.Offset+szE x.zF).toNat=x.Place.Offset.toNat+(zou x.zF (ziw (rg s x.R) x.zF x.Half).1.N).size by omega,zaij (by omega),hcs];exact zahr hT q.ft
           · have iv:=zgc hc hx hop (U:=⟨false,false,false,true,true,false,false,false,false,false,false,false,false,false,2,2⟩) rfl;have hpl:=iv.pl rfl;rw [show zd4 x=x.zF by unfold zd4;rw [ifn],←zfj hz]at hpl;have h20:=(iv.ty2 rfl).2;rw [ex9 hop]at h;split at h
             · cases h
             · cases ha:zfa s.Storage x.Place (szE x.zF)with
               | error e=>rw [ha]at h;cases h
               | ok a=>
                rw [ha]at h;cases h;have har:=zr3 hs.sto hpl ha;have hd:∀b:ByteArray,((zle b x.zF.Length.toNat).size:Int)=szE x.zF:=fun b=>by
                 rw [zq7];have:szE x.zF=x.zF.Length:=by unfold szE;rw [ifn,ifn,ifn]
                 omega
                rcases hf with hf|⟨hb,hf|⟨h1,_⟩⟩
                · exact wr a _ ha (hd _) (by have:=hd (by assumption);omega) rfl (fun _=>har.1) (.inl hf)
                · exact wr a _ ha (hd _) (by have:=hd (by assumption);omega) rfl (fun _=>har.1) (.inr ⟨hb,hf⟩)
                · omega
           · have iv:=zgc hc hx hop (U:=⟨false,false,false,true,false,false,false,false,false,false,true,false,false,false,2,0⟩) rfl;have hpl:=iv.pl rfl;rw [show zd4 x=x.zF by unfold zd4;rw [ifn],←zfj hz]at hpl;have h20:=(iv.ty2 rfl).2;rw [z7l hop]at h;cases ha:zfa s.Storage x.Place (szE x.zF)with
             | error e=>rw [ha]at h;cases h
             | ok a=>
              rw [ha]at h;cases h;have har:=zr3 hs.sto hpl ha;have hd:((zle x.Text x.zF.Length.toNat).size:Int)=szE x.zF:=by
               rw [zq7];have:szE x.zF=x.zF.Length:=by unfold szE;rw [ifn,ifn,ifn]
               omega
              rcases hf with hf|⟨hb,hf|⟨h1,_⟩⟩
              · exact wr a _ ha hd (by omega) rfl (fun _=>har.1) (.inl hf)
              · exact wr a _ ha hd (by omega) rfl (fun _=>har.1) (.inr ⟨hb,hf⟩)
              · omega
         · rename_i h1;split at hf
           · rename_i hop;have hpt:=ix.pt hop;have hv:=(hl f hf.1).1;have st:∀(o:Nat),zjr (updS s (stV s.Storage x.Pointer.toNat o)) f:=by
              intro o;have hq:ze7 c.Storage x.Pointer=true:=by
               rcases hop with hop|hop|hop
               · exact(zgc hc hx hop (U:=⟨false,false,false,true,false,false,false,false,false,false,false,false,true,false,3,0⟩) rfl).pt rfl
               · exact(zgc hc hx hop (U:=⟨false,false,false,false,false,false,false,false,false,false,false,false,true,true,0,0⟩) rfl).pt rfl
               · exact(zgc hc hx hop (U:=⟨true,false,false,false,false,false,false,false,false,false,false,false,true,false,0,0⟩) rfl).pt rfl
              have hq2:=zmu hq;have h16:=hs.sto.quad;have hps:=znd o;have:=z4o hpt.1 (by omega) (show(0:Int)≤16 by decide) (by decide) (zye hv).1 (by have:=hv.of;have:=(zye hv).1;omega) hf.2;exact zv8 hv hz (hl f hf.1).2 (a:=x.Pointer.toNat) (d:=pbV o) (by omega) rfl (by omega)
             rcases hop with hop|hop|hop
             · rw [z7h hop]at h;split at h<;>cases h;exact st _
             · rw [z7g hop]at h;split at h<;>cases h;exact st _
             · rw [z7f hop]at h;split at h
               · cases h
               · split at h<;>cases h;exact st _
           · rename_i h14;obtain⟨k1,k2⟩:=zae3 ix.op h0 h4 h2 h3 h1 h14 h;exact(hl f hf).2.same k1 k2
variable {m:zK} {c:zH} {s t:zC}
theorem z4d {x:zA} (hop:0≤x.Op∧x.Op≤26) {n:Int} (h:zad s x= .ok (n,t)) (h0:t.Status=0) (hs0:s.Status=0):(n=s.At+1∧zps x.Op=true)∨(zgs x.Op=true∧n=x.Target)∨(x.Op=19∧∃i∈s.Stack,n=i+1):=by
 have on:∀k:Int,x.Op=k→zps k=true→zps x.Op=true:=fun k e h=>by rw [e];exact h
 have jm:∀k:Int,x.Op=k→zgs k=true→zgs x.Op=true:=fun k e h=>by rw [e];exact h
 rcases(by omega:x.Op=0∨x.Op=1∨x.Op=2∨x.Op=3∨x.Op=4∨x.Op=5∨x.Op=6∨x.Op=7∨x.Op=8∨x.Op=9∨x.Op=10∨x.Op=11∨x.Op=12∨x.Op=13∨x.Op=14∨x.Op=15∨x.Op=16∨x.Op=17∨x.Op=18∨x.Op=19∨x.Op=20∨x.Op=21∨x.Op=22∨x.Op=23∨x.Op=24∨x.Op=25∨x.Op=26)with e|e|e|e|e|e|e|e|e|e|e|e|e|e|e|e|e|e|e|e|e|e|e|e|e|e|e
 · rw [ex0 e]at h;split at h<;>cases h;exact .inl ⟨rfl,on _ e rfl⟩
 · rw [ex1 e]at h;split at h
   · cases h
   · split at h<;>cases h;exact .inl ⟨rfl,on _ e rfl⟩
 · rw [ex2 e]at h;cases h;exact .inl ⟨rfl,on _ e rfl⟩
 · rw [ex3 e]at h;cases h;exact .inl ⟨rfl,on _ e rfl⟩
 · rw [ex4 e]at h;split at h
   · cases h
   · split at h
     · cases h
     · split at h<;>cases h;exact .inl ⟨rfl,on _ e rfl⟩
 · rw [ex5 e]at h;cases h;exact .inl ⟨rfl,on _ e rfl⟩
 · rw [ex6 e]at h;cases h;cases hb:(zg .i64 s.Condition x.Mask !=0)with
   | true=>exact .inr (.inl ⟨jm _ e rfl,rfl⟩)
   | false=>exact .inl ⟨rfl,on _ e rfl⟩
 · rw [ex7 e]at h;cases h;cases hb:(zg .i64 (zke s x.A x.B) x.Mask !=0)with
   | true=>exact .inr (.inl ⟨jm _ e rfl,rfl⟩)
   | false=>exact .inl ⟨rfl,on _ e rfl⟩
 · rw [ex8 e]at h;cases h;exact .inr (.inl ⟨jm _ e rfl,rfl⟩)
 · rw [ex9 e]at h;split at h
   · cases h
   · split at h<;>cases h;exact .inl ⟨rfl,on _ e rfl⟩
 · rw [z7l e]at h;split at h<;>cases h;exact .inl ⟨rfl,on _ e rfl⟩
 · rw [z7k e]at h;split at h
   · cases h
   · split at h<;>cases h;exact .inl ⟨rfl,on _ e rfl⟩
 · rw [z7j e]at h;split at h<;>cases h;exact .inl ⟨rfl,on _ e rfl⟩
 · rw [z7i e]at h;cases h;exact .inl ⟨rfl,on _ e rfl⟩
 · rw [z7h e]at h;split at h<;>cases h;exact .inl ⟨rfl,on _ e rfl⟩
 · rw [z7g e]at h;split at h<;>cases h;exact .inl ⟨rfl,on _ e rfl⟩
 · rw [z7f e]at h;split at h
   · cases h
   · split at h<;>cases h;exact .inl ⟨rfl,on _ e rfl⟩
 · rw [z7e e]at h;split at h<;>cases h;exact .inl ⟨rfl,on _ e rfl⟩
 · rw [z7d e]at h;split at h<;>cases h;exact .inr (.inl ⟨jm _ e rfl,rfl⟩)
 · rw [z7c e]at h;split at h
   · cases h;exact absurd h0 (by show ¬(1:Int)=0;decide)
   · rename_i hl;cases h;refine .inr (.inr ⟨e,_,?_,rfl⟩);have hx:s.Stack[s.Stack.length-1]?=some (s.Stack.getD (s.Stack.length-1) 0):=by rw [gdd,lge (by omega)];rfl
     exact lmg hx
 · rw [z7b e]at h;split at h<;>cases h
 · rw [z7a e]at h;cases h;exact .inl ⟨rfl,on _ e rfl⟩
 · rw [z69 e]at h;exact .inl ⟨(znv h).1,on _ e rfl⟩
 · rw [z68 e]at h;split at h
   · cases h
   · exact .inl ⟨(znv h).1,on _ e rfl⟩
 · rw [z67 e]at h;exact .inl ⟨(znv h).1,on _ e rfl⟩
 · rw [z65 e]at h;split at h<;>cases h<;>exact .inl ⟨rfl,on _ e rfl⟩
 · rw [z64 e]at h;cases h;exact absurd h0 (by show ¬(1:Int)=0;decide)
structure FacV (m:zK) (c:zH) (F:Nat→List zD):Prop where
 ent:∀k,k<c.zB.length→zt9 c k=true→F k=[]
 go:∀i k x,k<c.zB.length→c.zB[i]?=some x→(k:Int)∈zfp c i→∀f∈F k,Beh x (F i) f
 ok:∀k,k<c.zB.length→∀f∈F k,FctV m c f
theorem z37 {e:Int}:∀(k:Nat) (s:zC),s.Stack.length<k→s.Status=0→(ze6 c e k s).Status=0→∃a,0≤zdv c a e∧(ze6 c e k s).At=zdv c a e
 | 0,s,h,_,_=>by omega
 | k+1,s,h,h0,h1=>by
  unfold ze6 at h1⊢;split at h1
  · rename_i hh;rw [ifp hh];exact⟨s.At,hh,rfl⟩
  · rename_i hh;rw [ifn hh];split at h1
    · exact absurd h1 (by show ¬(2:Int)=0;decide)
    · rename_i hl;rw [ifn hl];exact z37 k _ (by show(s.Stack.take (s.Stack.length-1)).length<k;rw [lnt];omega) h0 h1
theorem z8y {a e:Int} (h:0≤zdv c a e):zt9 c (zdv c a e).toNat=true:=by
 unfold zdv at h⊢
 cases hi:zt5 c a e with
 | none=>rw [hi]at h;simp at h
 | some i=>
  rw [hi]at h;obtain⟨t,ht,_⟩:=zta hi;simp only at h⊢;rw [gdd,ht]at h⊢;simp only [Option.getD_some]at h⊢;unfold zt9 z7n;have:(c.zQ.any fun u=>decide (u.Handler=((t.Handler.toNat:Nat):Int)))=true:=List.any_eq_true.2 ⟨t,lmg ht,by rw [decide_eq_true_eq];omega⟩;rw [this,Bool.or_true];rfl
theorem z9m {t:zC} (h:(zqf t).Status=0):zqf t=t∧t.Status=0:=by
 unfold zqf at h⊢
 split at h
 · exact absurd h (by show ¬(3:Int)=0;decide)
 · rename_i hn;rw [ifn hn];exact⟨rfl,h⟩
theorem zab3 {F:Nat→List zD} (hc:CodeV m c) (hs:StV m c s) (h0:s.Status=0) (h3:s.Steps<3000) (hF:FacV m c F) (hT:∀f∈F s.At.toNat,zjr s f) (h1:(zhe c s).Status=0):∀f∈F (zhe c s).At.toNat,zjr (zhe c s) f:=by
 have a0:=hs.at0
 have a1:=hs.at1
 have p0:=hs.sp0
 have hx:c.zB[s.At.toNat]?=some (zjn c s):=by
  unfold zjn;rw [gdd,lge (by omega)];rfl
 have hmem:=lmg hx
 have ix:=z41 (hc.ins _ hmem)
 have hs1:StV m c (updP s (s.Steps+1)):=hs.updP (by omega) (by omega)
 have hT1:∀f∈F s.At.toNat,FctV m c f∧zjr (updP s (s.Steps+1)) f:=fun f hf=>⟨hF.ok _ (by omega) f hf,(hT f hf).same rfl rfl⟩
 unfold zhe at h1⊢
 cases hE:zad (updP s (s.Steps+1)) (zjn c s)with
 | error e=>
  rw [hE]at h1;simp only at h1⊢;obtain⟨q1,q2⟩:=z9m h1;rw [q1];obtain⟨a,k1,k2⟩:=z37 (s.Stack.length+1) (updE (updP s (s.Steps+1)) e) (Nat.lt_succ_self _) h0 q2;have hr:=(zut hc a e).resolve_left (by omega);rw [k2,hF.ent _ (by omega) (z8y k1)];intro f hf;simp at hf
 | ok r=>
  obtain⟨n,t⟩:=r;rw [hE]at h1;simp only at h1⊢;split at h1
  · rename_i hne;exact absurd h1 hne
  · rename_i hst;rw [ifn hst];have hst:t.Status=0:=Decidable.not_not.1 hst;split at h1
    · exact absurd h1 (by show ¬(1:Int)=0;decide)
    · rename_i hnl;rw [ifn hnl];obtain⟨q1,q2⟩:=z9m h1;rw [q1];show∀f∈F n.toNat,zjr (updA t n) f;have behind:∀k:Nat,n=(k:Int)→k<c.zB.length→(k:Int)∈zfp c s.At.toNat→∀f∈F n.toNat,zjr (updA t n) f:=fun k hk hkl hsu f hf=>by
       subst hk;rw [itn]at hf;exact(zafg hc hs1 hmem hT1 hE (hF.go _ _ _ hkl hx hsu f hf)).same rfl rfl
      have hat:(updP s (s.Steps+1)).At=s.At:=rfl;have hsu:∀z:Int,z∈zfp c s.At.toNat↔(zps (zjn c s).Op=true∧s.At.toNat+1<c.zB.length∧z=((s.At.toNat+1:Nat):Int))∨(zgs (zjn c s).Op=true∧z=(zjn c s).Target):=fun z=>by
       unfold zfp;rw [hx];simp only;rw [List.mem_append];cases zps (zjn c s).Op<;>cases zgs (zjn c s).Op<;>by_cases hl:s.At.toNat+1<c.zB.length<;>simp [hl]<;>omega
      rcases z4d ix.op hE hst h0 with⟨k1,k2⟩|⟨k1,k2⟩|⟨k1,i,k2,k3⟩
      · exact behind (s.At.toNat+1) (by omega) (by omega) ((hsu _).2 (.inl ⟨k2,by omega,rfl⟩))
      · have htg:=ix.tg (by unfold zgs at k1;simp only [Bool.or_eq_true,decide_eq_true_eq]at k1;omega);exact behind (zjn c s).Target.toNat (by omega) (by omega) ((hsu _).2 (.inr ⟨k1,by omega⟩))
      · obtain⟨r1,y,r2,r3⟩:=hs.calls i k2;have:F n.toNat=[]:=hF.ent _ (by omega) (by
         rw [k3,show(i+1).toNat=i.toNat+1 by omega];unfold zt9;rw [zyk,r2];simp [r3])
        rw [this];intro f hf;simp at hf
variable {x:Optimization} {F:List (List zD)}
theorem z4l (N:Nat) (hN:1048600<N) (m:zK) {c:zH} (hc:Wft En 1048576 Ty.zH c) (hF:F.length≤250) (hl:∀l∈F,l.length≤64):∃r,zd N m c F=some r:=by
 obtain⟨⟨n,e⟩,h1,h2⟩:=zo8 N hN m hc
 unfold zd zcz
 rw [h1]
 simp only [obs]
 have ec:∀(b:Bool) (z:Int),zek b z=some (cond b z 0):=fun b z=>by cases b<;>rfl
 rw [ec,obs,zr9 N [e,cond ((F.length:Int) !=(c.zB.length:Int)) 6 0] (by show 2<N;omega) (by show 2<1000000000;omega),obs]
 by_cases h0:(zcu [e,cond ((F.length:Int) !=(c.zB.length:Int)) 6 0] !=0)=true
 · rw [h0];exact⟨_,rfl⟩
 · rw [show(zcu [e,cond ((F.length:Int) !=(c.zB.length:Int)) 6 0] !=0)=false by simpa using h0,cfa];have h00:zcu [e,cond ((F.length:Int) !=(c.zB.length:Int)) 6 0]=0:=by simpa using h0
   have he:e=0:=by
    refine cbc fun q=> ?_;have:zcu [e,cond ((F.length:Int) !=(c.zB.length:Int)) 6 0]=e:=by simp [zcu,q]
    omega
   subst he;have hlen:F.length=c.zB.length:=by
    refine cbc fun q=> ?_;have:zcu [0,cond ((F.length:Int) !=(c.zB.length:Int)) 6 0]=6:=by rw [zde,dct (show(F.length:Int)≠(c.zB.length:Int)by omega)];rfl
    omega
   obtain⟨hcv,hn⟩:=z2j N hN hc h2;rw [z5b N (by omega) ⟨hcv.m1,hcv.m2⟩ hcv.sz F (by omega) (fun l h=>by have:=hl l h;omega)];simp only [obs];cases hls:(List.range F.length).findSome? (lsE m c F)with
   | some q=>exact⟨_,rfl⟩
   | none=>
    have hFv:FsV m c F:=⟨hlen,z9e hls⟩;have hil:=hcv.len;simp only [zbq];rw [z1a N hN hcv];simp only [obs];rw [ifp,ifp,itn,ble1 (by omega),ctr,z3o N hN hcv hFv];simp only [obs];rw [z5e N _ (by simp;omega) (by simp;omega)];simp only [obs];cases((List.range c.zB.length).map (zwp c F)).findIdx? id with
    | some k=>
     simp only;rw [dct (by omega)];exact⟨_,rfl⟩
    | none=>exact⟨_,rfl⟩
theorem zag6 (N:Nat) (hN:1048600<N) (h:OptW x) (hF:x.Proof.Facts.length≤250) (hl:∀l∈x.Proof.Facts,l.length≤64):∃r,zac N x=some r:=by
 obtain⟨⟨n1,e1⟩,a1,a2⟩:=zo8 N hN x.Model h.b
 obtain⟨⟨n2,e2⟩,b1,b2⟩:=zo8 N hN x.Model h.a
 unfold zac zcz
 rw [a1,b1]
 simp only [obs]
 rw [zr9 N [e1,e2] (by show 2<N;omega) (by show 2<1000000000;omega),obs]
 by_cases he1:e1=0
 · subst he1
   by_cases he2:e2=0
   · subst he2;rw [show zcu [0,0]=0 from rfl];simp only [bsf,cfa];obtain⟨hcv,hn⟩:=z2j N hN h.b a2;have ck:=zaf0 N hN h.b a2;have htv:=zaby ck.trap;obtain⟨⟨n3,e3⟩,c1⟩:=z4l N hN x.Model h.b hF hl;rw [c1];simp only [obs]
     by_cases he3:e3=0
     · subst he3;have hfl:=zua N hN x.Model hF c1;have hil:=hcv.len;simp only [bsf,cfa];have htw:x.Before.Storage.Tags.length≤1048576:=by obtain⟨w1,w2,w3,w4,w5⟩:=zkx h.b;omega
       have hat:x.After.zQ.length≤1048576:=by obtain⟨w1,w2,w3,w4,w5⟩:=zkx h.a;omega
       rw [z5p N _ _ (by omega) (by omega),zde]
       by_cases hix:(x.Proof.Index.length:Int)=(x.Before.zB.length:Int)
       · rw [dcf (show ¬(x.Proof.Index.length:Int)≠(x.Before.zB.length:Int)from fun h=>h hix)];have hix':x.Proof.Index.length=x.Before.zB.length:=by omega
         have ov:OptV x:=⟨hil,hix',hfl,hl,fun y hy hj=>(hcv.ins y hy).tg (by unfold zgs at hj;simp only [Bool.or_eq_true,decide_eq_true_eq]at hj;omega)⟩;have htv':∀t∈x.Before.zQ,0≤t.From∧t.From≤t.To∧t.To≤(x.Proof.Index.length:Int)∧0≤t.Handler∧t.Handler<(x.Proof.Index.length:Int):=fun t ht=>by rw [hix'];exact htv t ht
         have hbt:=ck.tr;rw [z3n N (by omega) (by omega)];simp only [obs];rw [z5a N (by omega) ov];simp only [obs];cases(x.Before.Storage.Bytes.toList==x.After.Storage.Bytes.toList)with
         | false=>exact⟨_,rfl⟩
         | true=>
          cases decide (x.Before.Storage.Tags=x.After.Storage.Tags)with
          | false=>exact⟨_,rfl⟩
          | true=>
           simp only [ctr,obs,bnt,cfa];cases(List.range x.Before.zB.length).findSome? (zyo x)with
           | some r=>exact⟨_,rfl⟩
           | none=>
            simp only [zbq];rw [zau,zy6 (by omega)];simp only [obs];cases((x.After.zB.length:Int) !=(kI x.Proof.Index x.Before.zB.length:Int))with
            | true=>exact⟨_,rfl⟩
            | false=>
             simp only [cfa];rw [z3m N (by omega) (by omega) htv'];simp only [obs]
             by_cases htl:(x.After.zQ.length:Int)=(x.Before.zQ.length:Int)
             · rw [zxe N (by rw [lnm];omega) (by omega) (by omega)];simp only [obs];cases(List.range x.After.zQ.length).findSome? (fun i=>if zxd x.After.zQ (x.Before.zQ.map (zzy (kI x.Proof.Index))) i=true then some false else none)with
               | none=>exact⟨_,rfl⟩
               | some v=>cases v<;>exact⟨_,rfl⟩
             · unfold zal;rw [zde,lnm,dct (show(x.After.zQ.length:Int)≠(x.Before.zQ.length:Int)from htl)];exact⟨_,rfl⟩
       · rw [dct (show(x.Proof.Index.length:Int)≠(x.Before.zB.length:Int)from hix)];cases(x.Before.Storage.Bytes.toList==x.After.Storage.Bytes.toList)<;>exact⟨_,rfl⟩
     · rw [show(e3 !=0)=true by simpa using he3];exact⟨_,rfl⟩
   · rw [show zcu [0,e2]=e2 by simp [zcu,he2],show(e2 !=0)=true by simpa using he2];exact⟨_,rfl⟩
 · rw [show zcu [e1,e2]=e1 by simp [zcu,he1],show(e1 !=0)=true by simpa using he1];exact⟨_,rfl⟩
variable {m:zK} {c:zH} {x:Optimization} {F:List (List zD)}
theorem zaf1 {a b:ByteArray} (h:(a==b)=true):a=b:=by
 cases a with
 | mk d=>
  cases b with
  | mk d'=>
   have h:(d==d')=true:=h;rw [eq_of_beq h]
theorem z9o {z w:zA} (h:eqI z w=true):z=w:=by
 obtain⟨_,_,_,_,_,⟨_,_,_⟩,⟨_,_,_⟩,⟨_,_,_⟩,⟨_,_,_⟩,_,_,⟨_,_⟩,t1,o1,_,_,_,_⟩:=z
 obtain⟨_,_,_,_,_,⟨_,_,_⟩,⟨_,_,_⟩,⟨_,_,_⟩,⟨_,_,_⟩,_,_,⟨_,_⟩,t2,o2,_,_,_,_⟩:=w
 unfold eqI at h
 simp only [zdq,Bool.and_eq_true,and_true]at h
 obtain⟨h1,h2,h3,h4,h5,h6,h7,h8,h9,h10,h11,h12,h13,h14,h15,h16,h17,h18,h19,h20,h21,h22,h23,h24,h25,h26,h27⟩:=h
 have e:=zaf1 h22
 have e':=zaf1 h23
 simp only [beq_iff_eq]at h1 h2 h3 h4 h5 h6 h7 h8 h9 h10 h11 h12 h13 h14 h15 h16 h17 h18 h19 h20 h21 h24 h25 h26 h27
 subst h1 h2 h3 h4 h5 h6 h7 h8 h9 h10 h11 h12 h13 h14 h15 h16 h17 h18 h19 h20 h21 h24 h25 h26 h27 e e'
 rfl
theorem zadl (N:Nat) (hN:1048600<N) (m:zK) {c:zH} (hc:Wft En 1048576 Ty.zH c) (hF:F.length≤250) (hl:∀l∈F,l.length≤64) {r:Int} (h:zd N m c F=some (r,0)):FsV m c F∧∀k,k<c.zB.length→zwp c F k=false:=by
 have hlen:=zua N hN m hF h
 obtain⟨⟨n,e⟩,h1,h2⟩:=zo8 N hN m hc
 unfold zd zcz at h
 rw [h1]at h
 simp only [obs]at h
 have ec:∀(b:Bool) (z:Int),zek b z=some (cond b z 0):=fun b z=>by cases b<;>rfl
 rw [ec,obs,zr9 N [e,cond ((F.length:Int) !=(c.zB.length:Int)) 6 0] (by show 2<N;omega) (by show 2<1000000000;omega),obs]at h
 by_cases he:e=0
 · subst he;obtain⟨hcv,hn⟩:=z2j N hN hc h2;have e1:zcu [0,cond ((F.length:Int) !=(c.zB.length:Int)) 6 0]=0:=by rw [zde,dcf (by simp [hlen])];rfl
   rw [e1]at h;simp only [bsf,cfa]at h;have hm:2≤m.Registers∧m.Registers≤8:=⟨hcv.m1,hcv.m2⟩;rw [z5b N (by omega) hm hcv.sz F (by omega) (fun l h=>by have:=hl l h;omega)]at h;simp only [obs]at h;cases hls:(List.range F.length).findSome? (lsE m c F)with
   | some q=>
    rw [hls]at h;simp only [zbq]at h;cases h;obtain⟨i,_,hi⟩:=eof hls;unfold lsE at hi;rw [Option.bind_eq_some_iff]at hi;obtain⟨l,_,hi⟩:=hi;rw [Option.map_eq_some_iff]at hi;obtain⟨e,he,hi⟩:=hi;cases hi;exact absurd rfl (z6r he)
   | none=>
    rw [hls]at h;have hFv:FsV m c F:=⟨by omega,z9e hls⟩;have hil:=hcv.len;simp only [zbq]at h;rw [z1a N hN hcv]at h;simp only [obs]at h;rw [ifp,ifp,itn,ble1 (by omega),ctr,z3o N hN hcv hFv]at h;simp only [obs]at h;rw [z5e N _ (by simp;omega) (by simp;omega)]at h;simp only [obs]at h;refine⟨hFv,fun k hk=> ?_⟩;cases hf:((List.range c.zB.length).map (zwp c F)).findIdx? id with
    | some j=>
     rw [hf]at h;simp only at h;rw [dct (by omega)]at h;simp only [ctr]at h;cases h
    | none=>
     rw [List.findIdx?_eq_none_iff]at hf;have:=hf (zwp c F k) (List.mem_map.2 ⟨k,by simpa using hk,rfl⟩);simpa using this
 · have e1:zcu [e,cond ((F.length:Int) !=(c.zB.length:Int)) 6 0]=e:=by simp [zcu,he]
   rw [e1,show(e !=0)=true by simpa using he]at h;simp only [ctr]at h;cases h;exact absurd rfl he
theorem zajw (hF:FsV m c F) (h:∀k,k<c.zB.length→zwp c F k=false):FacV m c (zgm F):=by
 refine⟨fun k hk he=> ?_,fun i k x hk hx hs f hf=> ?_,fun k hk f hf=> ?_⟩
 · have:=h k hk;unfold zwp at this;rw [Bool.or_eq_false_iff]at this;have h1:=this.1;unfold z0n at h1;rw [he,Bool.true_and,decide_eq_false_iff_not]at h1;exact List.length_eq_zero_iff.1 (by omega)
 · have:=h k hk;unfold zwp at this;rw [Bool.or_eq_false_iff]at this;have hi:=(gei hx).1;have h2:=List.any_eq_false.1 this.2 i (by simpa using hi);unfold z8d zv6 at h2;rw [List.contains_iff_mem.2 hs,Bool.true_and]at h2;simp only [List.any_eq_true,Bool.not_eq_true',not_exists,not_and,Bool.not_eq_false]at h2;have h3:=zsn.1 (h2 f hf);unfold zq0 at h3;have hiF:i<F.length:=by rw [hF.len];exact hi
   have hl:=lge hiF;rw [hx,hl]at h3;have e:zgm F i=F[i]:=by unfold zgm;rw [hl];rfl
   rw [e];exact z9y.1 h3
 · unfold zgm at hf;have hl:=lge (show k<F.length by rw [hF.len];exact hk);rw [hl]at hf;exact(hF.v _ (List.getElem_mem _)).2 f hf
theorem zad6 {p q:List zT} (e:p.length=q.length) (h:(List.range p.length).findSome? (fun i=>if zxd p q i=true then some false else none)=none):p=q:=by
 apply List.ext_getElem e
 intro i h1 h2
 rw [List.findSome?_eq_none_iff]at h
 have:=h i (by simpa using h1)
 unfold zxd at this
 rw [lge h1,lge h2]at this
 simp only at this
 split at this
 · cases this
 · rename_i hb;simp only [Bool.not_eq_true',Bool.not_eq_false,zdq,Bool.and_eq_true,beq_iff_eq,and_true]at hb;obtain⟨b1,b2,b3,b4⟩:=hb;generalize p[i]=u at*;generalize q[i]=v at*;cases u;cases v;simp only at b1 b2 b3 b4;rw [b1,b2,b3,b4]
structure AccV (x:Optimization):Prop where
 hb:CodeV x.Model x.Before
 ha:CodeV x.Model x.After
 kb:∃n,zj 2000000 x.Model x.Before=some (n,0)
 ka:∃n,zj 2000000 x.Model x.After=some (n,0)
 sto:x.After.Storage=x.Before.Storage
 fac:FacV x.Model x.Before (zgm x.Proof.Facts)
 ov:OptV x
 stp:∀i,i<x.Before.zB.length→z5z x i=true
 len:x.After.zB.length=kI x.Proof.Index x.Before.zB.length
 trp:x.After.zQ=x.Before.zQ.map (zzy (kI x.Proof.Index))
theorem zake (N:Nat) (hN:1048600<N) (hN2:N=2000000) (h:OptW x) (hF:x.Proof.Facts.length≤250) (hl:∀l∈x.Proof.Facts,l.length≤64) {r:Int} (ht:zac N x=some (r,0)):AccV x:=by
 obtain⟨⟨n1,e1⟩,a1,a2⟩:=zo8 N hN x.Model h.b
 obtain⟨⟨n2,e2⟩,b1,b2⟩:=zo8 N hN x.Model h.a
 unfold zac zcz at ht
 rw [a1,b1]at ht
 simp only [obs]at ht
 rw [zr9 N [e1,e2] (by show 2<N;omega) (by show 2<1000000000;omega),obs]at ht
 by_cases he1:e1=0
 · subst he1
   by_cases he2:e2=0
   · subst he2;rw [show zcu [0,0]=0 from rfl]at ht;simp only [bsf,cfa]at ht;obtain⟨hcv,hn⟩:=z2j N hN h.b a2;obtain⟨hv1,hn1⟩:=zadj N hN h.b a2;obtain⟨hv2,_⟩:=zadj N hN h.a b2;have ck:=zaf0 N hN h.b a2;have htv:=zaby ck.trap;obtain⟨⟨n3,e3⟩,c1⟩:=z4l N hN x.Model h.b hF hl;rw [c1]at ht;simp only [obs]at ht
     by_cases he3:e3=0
     · subst he3;have hfl:=zua N hN x.Model hF c1;obtain⟨hfs,hbr⟩:=zadl N hN x.Model h.b hF hl c1;have hil:=hcv.len;simp only [bsf,cfa]at ht;have htw:x.Before.Storage.Tags.length≤1048576:=by obtain⟨w1,w2,w3,w4,w5⟩:=zkx h.b;omega
       have hat:x.After.zQ.length≤1048576:=by obtain⟨w1,w2,w3,w4,w5⟩:=zkx h.a;omega
       rw [z5p N _ _ (by omega) (by omega),zde]at ht
       by_cases hix:(x.Proof.Index.length:Int)=(x.Before.zB.length:Int)
       · rw [dcf (show ¬(x.Proof.Index.length:Int)≠(x.Before.zB.length:Int)from fun h=>h hix)]at ht;have hix':x.Proof.Index.length=x.Before.zB.length:=by omega
         have ov:OptV x:=⟨hil,hix',hfl,hl,fun y hy hj=>(hcv.ins y hy).tg (by unfold zgs at hj;simp only [Bool.or_eq_true,decide_eq_true_eq]at hj;omega)⟩;have htv':∀t∈x.Before.zQ,0≤t.From∧t.From≤t.To∧t.To≤(x.Proof.Index.length:Int)∧0≤t.Handler∧t.Handler<(x.Proof.Index.length:Int):=fun t ht=>by rw [hix'];exact htv t ht
         by_cases hby:x.Before.Storage.Bytes.toList=x.After.Storage.Bytes.toList
         · by_cases htg:x.Before.Storage.Tags=x.After.Storage.Tags
           · rw [show(x.Before.Storage.Bytes.toList==x.After.Storage.Bytes.toList)=true from beq_iff_eq.2 hby,dct htg]at ht;simp only [ctr,obs,bnt,cfa]at ht;rw [z3n N (by omega) (by omega)]at ht;simp only [obs]at ht;rw [z5a N (by omega) ov]at ht;simp only [obs]at ht;have hsto:x.After.Storage=x.Before.Storage:=by
              have e1:x.Before.Storage.Bytes=x.After.Storage.Bytes:=by
               apply znn;rw [←zsw,←zsw];exact hby
              cases hA:x.After.Storage with
              | mk p q=>
               cases hB:x.Before.Storage with
               | mk p' q'=>
                rw [hA,hB]at e1 htg;simp only at e1 htg;rw [e1,htg]
             cases hst:(List.range x.Before.zB.length).findSome? (zyo x)with
             | some q=>
              rw [hst]at ht;simp only [zbq]at ht;cases ht;obtain⟨i,_,hi⟩:=eof hst;unfold zyo at hi;split at hi<;>cases hi
             | none=>
              rw [hst]at ht;simp only [zbq]at ht;rw [zau,zy6 (by omega)]at ht;simp only [obs]at ht;rw [zde]at ht;have hstp:∀i,i<x.Before.zB.length→z5z x i=true:=fun i hi=>by
               rw [List.findSome?_eq_none_iff]at hst;have:=hst i (by simpa using hi);unfold zyo at this;split at this
               · rename_i h;exact h
               · cases this
              by_cases hlen:(x.After.zB.length:Int)=(kI x.Proof.Index x.Before.zB.length:Int)
              · rw [dcf (show ¬(x.After.zB.length:Int)≠(kI x.Proof.Index x.Before.zB.length:Int)from fun h=>h hlen)]at ht;have hbt:=ck.tr;simp only [cfa]at ht;rw [z3m N (by omega) (by omega) htv']at ht;simp only [obs]at ht
                by_cases htl:(x.After.zQ.length:Int)=(x.Before.zQ.length:Int)
                · have e:x.After.zQ.length=(x.Before.zQ.map (zzy (kI x.Proof.Index))).length:=by rw [lnm];omega
                  rw [zxe N e (by omega) (by omega)]at ht;simp only [obs]at ht;cases hbad:(List.range x.After.zQ.length).findSome? (fun i=>if zxd x.After.zQ (x.Before.zQ.map (zzy (kI x.Proof.Index))) i=true then some false else none)with
                  | some b=>
                   rw [hbad]at ht;obtain⟨i,_,hi⟩:=eof hbad;split at hi
                   · cases hi;simp only [Bool.not_false,ctr]at ht;cases ht
                   · cases hi
                  | none=>
                   exact⟨hv1,hv2,⟨n1,by rw [←hN2];exact a1⟩,⟨n2,by rw [←hN2];exact b1⟩,hsto,zajw hfs hbr,ov,hstp,by omega,zad6 e hbad⟩
                · unfold zal at ht;rw [zde,lnm,dct (show(x.After.zQ.length:Int)≠(x.Before.zQ.length:Int)from htl)]at ht;simp only [ctr,obs,Bool.not_false]at ht;cases ht
              · rw [dct (show(x.After.zB.length:Int)≠(kI x.Proof.Index x.Before.zB.length:Int)from hlen)]at ht;simp only [ctr,obs]at ht;cases ht
           · rw [dcf htg,show(x.Before.Storage.Bytes.toList==x.After.Storage.Bytes.toList)=true from beq_iff_eq.2 hby]at ht;simp only [ctr,cfa,obs,Bool.not_false]at ht;cases ht
         · rw [show(x.Before.Storage.Bytes.toList==x.After.Storage.Bytes.toList)=false from by simpa using hby]at ht;simp only [ctr,cfa,obs,Bool.not_false]at ht;cases ht
       · rw [dct (show(x.Proof.Index.length:Int)≠(x.Before.zB.length:Int)from hix)]at ht;cases hq:(cond (x.Before.Storage.Bytes.toList==x.After.Storage.Bytes.toList) ((some (decide (x.Before.Storage.Tags=x.After.Storage.Tags))).bind fun r5=>some r5) (some false))with
         | none=>rw [hq]at ht;cases ht
         | some q=>
          rw [hq]at ht;simp only [ctr,obs]at ht;cases ht
     · rw [show(e3 !=0)=true by simpa using he3]at ht;simp only [ctr]at ht;cases ht;exact absurd rfl he3
   · rw [show zcu [0,e2]=e2 by simp [zcu,he2],show(e2 !=0)=true by simpa using he2]at ht;simp only [ctr]at ht;cases ht;exact absurd rfl he2
 · rw [show zcu [e1,e2]=e1 by simp [zcu,he1],show(e1 !=0)=true by simpa using he1]at ht;simp only [ctr]at ht;cases ht;exact absurd rfl he1
variable {m:zK} {c:zH} {x:Optimization} {s t:zC} {I:List Int}
theorem zur (I:List Int) {a b:Nat} (h:a≤b):kI I a≤kI I b:=by
 induction b with
 | zero=>
  have:a=0:=by omega
  subst this;exact Nat.le_refl _
 | succ b ih=>
  by_cases e:a=b+1
  · subst e;exact Nat.le_refl _
  · have:=ih (by omega);simp only [kI];omega
def zdd (I:List Int) (s:zC) (k:Int):zC:=⟨s.Registers,s.Condition,s.Storage,(kI I s.At.toNat:Int),s.Stack.map (fun i=>(kI I i.toNat:Int)),s.Lines,s.Status,s.Exception,s.Marks,k⟩
def z5r (I:List Int) (k:Int):Except Int (Int × zC)→Except Int (Int × zC)
 | .error e=> .error e
 | .ok r=> .ok ((kI I r.1.toNat:Int),zdd I r.2 k)
def zwu (I:List Int) (a:Int):Prop:=0≤a∧kI I (a.toNat+1)=kI I a.toNat+1
theorem z05 (h:AccV x) {i:Nat} (hi:i<x.Before.zB.length):∃y,x.Before.zB[i]?=some y∧
 ((kI x.Proof.Index (i+1)=kI x.Proof.Index i∧i+1<x.Before.zB.length∧knl y=true∧(⟨y.R,y.zF,y.Place.Offset⟩:zD)∈zgm x.Proof.Facts i)∨
 (kI x.Proof.Index (i+1)=kI x.Proof.Index i+1∧∃z,x.After.zB[kI x.Proof.Index i]?=some z∧(z=zto x.Proof.Index y∨(knl y=true∧∃a,z=cpI y a∧(⟨a,y.zF,y.Place.Offset⟩:zD)∈zgm x.Proof.Facts i)))):=by
 have hy:=lge hi
 have hk:=lge (show i<x.Proof.Index.length by rw [h.ov.ix];exact hi)
 have hl:=lge (show i<x.Proof.Facts.length by rw [h.ov.fx];exact hi)
 have hf:zgm x.Proof.Facts i=x.Proof.Facts[i]'(by rw [h.ov.fx];exact hi):=by unfold zgm;rw [hl];rfl
 have hr:=h.stp i hi
 rw [z89 hy hk hl]at hr
 have hs:=z9f hk
 rw [←hf]at hr
 generalize x.Before.zB[i]=y at*
 generalize x.Proof.Index[i]'_=k at*
 refine⟨y,hy,?_⟩
 unfold rgt at hr
 split at hr
 · rename_i hk1;subst hk1;simp only [Bool.and_eq_true,Bool.not_eq_true',decide_eq_false_iff_not]at hr;exact .inl ⟨hs,by omega,hr.1.2,zsn.1 hr.2⟩
 · rename_i hk1;have hs:kI x.Proof.Index (i+1)=kI x.Proof.Index i+1:=by
    rw [hs,show(k != -1)=true by simpa using hk1];rfl
   right;refine⟨hs,?_⟩;split at hr
   · split at hr
     · rename_i z hz;refine⟨z,hz,?_⟩;simp only [Bool.or_eq_true,Bool.and_eq_true]at hr;rcases hr with hr|⟨⟨h1,h2⟩,h3⟩
       · exact .inl (z9o hr)
       · exact .inr ⟨h1,z.A,z9o h2,zsn.1 h3⟩
     · cases hr
   · cases hr
theorem zaee {k:Int} {y:zA} (hop:0≤y.Op∧y.Op≤26) (ha:zwu I s.At) (hst:∀i∈s.Stack,zwu I i):zad (zdd I s k) (zto I y)=z5r I k (zad s y):=by
 have e1:(zdd I s k).Storage=s.Storage:=rfl
 have e2:∀i,rg (zdd I s k) i=rg s i:=fun _=>rfl
 have e3:∀a b,zke (zdd I s k) a b=zke s a b:=fun _ _=>rfl
 have nx:(zdd I s k).At+1=(kI I (s.At+1).toNat:Int):=by
  obtain⟨h0,h1⟩:=ha;show(kI I s.At.toNat:Int)+1=_;rw [show(s.At+1).toNat=s.At.toNat+1 by omega,h1];omega
 have pr:∀l,zig (zdd I s k) l=z5r I k (zig s l):=fun l=>by
  unfold zig;rw [nx,show(zdd I s k).Lines=s.Lines from rfl];split<;>rfl
 have nj:∀n:Int,y.Op=n→zgs n=false→zto I y=y:=fun n e h=>by unfold zto;rw [e,h];rfl
 have jj:∀n:Int,y.Op=n→zgs n=true→zto I y=tgI y (kI I y.Target.toNat:Int):=fun n e h=>by unfold zto;rw [e,h];rfl
 rcases(by omega:y.Op=0∨y.Op=1∨y.Op=2∨y.Op=3∨y.Op=4∨y.Op=5∨y.Op=6∨y.Op=7∨y.Op=8∨y.Op=9∨y.Op=10∨y.Op=11∨y.Op=12∨y.Op=13∨y.Op=14∨y.Op=15∨y.Op=16∨y.Op=17∨y.Op=18∨y.Op=19∨y.Op=20∨y.Op=21∨y.Op=22∨y.Op=23∨y.Op=24∨y.Op=25∨y.Op=26)with e|e|e|e|e|e|e|e|e|e|e|e|e|e|e|e|e|e|e|e|e|e|e|e|e|e|e
 · rw [nj _ e rfl,ex0 e,ex0 e,e1,nx];cases zor s.Storage y.Place y.zF<;>rfl
 · rw [nj _ e rfl,ex1 e,ex1 e,e1,nx,e2];split
   · rfl
   · cases zfa s.Storage y.Place (szE y.zF)<;>rfl
 · rw [nj _ e rfl,ex2 e,ex2 e,nx];rfl
 · rw [nj _ e rfl,ex3 e,ex3 e,nx];rfl
 · rw [nj _ e rfl,ex4 e,ex4 e,e1,nx,e2,e2];cases(if y.zO=true then zor s.Storage y.Place y.Second else .ok (rg s y.B):Except Int Number)with
   | error e=>rfl
   | ok b=>
    simp only;split
    · rfl
    · split<;>rfl
 · rw [nj _ e rfl,ex5 e,ex5 e,nx];rfl
 · rw [jj _ e rfl,ex6 (x:=tgI y (kI I y.Target.toNat:Int)) e,ex6 e,nx];show Except.ok (cond (zg .i64 s.Condition y.Mask !=0) (kI I y.Target.toNat:Int) (kI I (s.At+1).toNat:Int),zdd I s k)=Except.ok ((kI I (cond (zg .i64 s.Condition y.Mask !=0) y.Target (s.At+1)).toNat:Int),zdd I s k);cases(zg .i64 s.Condition y.Mask !=0)<;>rfl
 · rw [jj _ e rfl,ex7 (x:=tgI y (kI I y.Target.toNat:Int)) e,ex7 e,nx];show Except.ok (cond (zg .i64 (zke s y.A y.B) y.Mask !=0) (kI I y.Target.toNat:Int) (kI I (s.At+1).toNat:Int),zdd I s k)=Except.ok ((kI I (cond (zg .i64 (zke s y.A y.B) y.Mask !=0) y.Target (s.At+1)).toNat:Int),zdd I s k);cases(zg .i64 (zke s y.A y.B) y.Mask !=0)<;>rfl
 · rw [jj _ e rfl,ex8 (x:=tgI y (kI I y.Target.toNat:Int)) e,ex8 e];rfl
 · rw [nj _ e rfl,ex9 e,ex9 e,e1,nx];cases zgz s.Storage y.From y.Second with
   | error e=>rfl
   | ok b=>cases zfa s.Storage y.Place (szE y.zF)<;>rfl
 · rw [nj _ e rfl,z7l e,z7l e,e1,nx];cases zfa s.Storage y.Place (szE y.zF)<;>rfl
 · rw [nj _ e rfl,z7k e,z7k e,e1,nx];cases zgz s.Storage y.Place y.zF with
   | error e=>rfl
   | ok b=>cases zgz s.Storage y.From y.Second<;>rfl
 · rw [nj _ e rfl,z7j e,z7j e,e1,nx];cases zgz s.Storage y.Place y.zF<;>rfl
 · rw [nj _ e rfl,z7i e,z7i e,nx];rfl
 · rw [nj _ e rfl,z7h e,z7h e,e1,nx];cases zfa s.Storage y.Place (szE y.zF)<;>rfl
 · rw [nj _ e rfl,z7g e,z7g e,e1,nx];cases ldV s.Storage y.Source<;>rfl
 · rw [nj _ e rfl,z7f e,z7f e,e1,nx,e2];cases ldV s.Storage y.Pointer with
   | none=>rfl
   | some o=>
    simp only;split<;>rfl
 · rw [nj _ e rfl,z7e e,z7e e,e1,nx];cases ldV s.Storage y.Pointer<;>rfl
 · rw [jj _ e rfl,z7d (x:=tgI y (kI I y.Target.toNat:Int)) e,z7d e,show(zdd I s k).Stack.length=s.Stack.length from lnm _];split
   · rfl
   · show Except.ok ((kI I y.Target.toNat:Int),updK (zdd I s k) (s.Stack.map (fun i=>(kI I i.toNat:Int))++[(kI I s.At.toNat:Int)]))=Except.ok ((kI I y.Target.toNat:Int),zdd I (updK s (s.Stack++[s.At])) k);unfold zdd updK;simp
 · rw [nj _ e rfl,z7c e,z7c e,show(zdd I s k).Stack.length=s.Stack.length from lnm _]
   by_cases hl:s.Stack.length=0
   · rw [ifp hl,ifp hl];rfl
   · rw [ifn hl,ifn hl];have hx:s.Stack[s.Stack.length-1]?=some (s.Stack.getD (s.Stack.length-1) 0):=by rw [gdd,lge (by omega)];rfl
     obtain⟨k0,k1⟩:=hst _ (lmg hx);have hg:(zdd I s k).Stack.getD (s.Stack.length-1) 0=(kI I (s.Stack.getD (s.Stack.length-1) 0).toNat:Int):=by
      show(s.Stack.map _).getD _ _=_;rw [gdd,List.getElem?_map,hx];rfl
     rw [hg];generalize s.Stack.getD (s.Stack.length-1) 0=a at*;show Except.ok ((kI I a.toNat:Int)+1,updK (zdd I s k) ((s.Stack.map (fun i=>(kI I i.toNat:Int))).take (s.Stack.length-1)))=Except.ok ((kI I (a+1).toNat:Int),zdd I (updK s (s.Stack.take (s.Stack.length-1))) k);rw [←List.map_take,show(a+1).toNat=a.toNat+1 by omega,k1];rfl
 · rw [nj _ e rfl,z7b e,z7b e,e2];split<;>rfl
 · rw [nj _ e rfl,z7a e,z7a e,nx];rfl
 · rw [nj _ e rfl,z69 e,z69 e,e2,pr]
 · rw [nj _ e rfl,z68 e,z68 e,e1];cases zgz s.Storage y.Place y.zF with
   | error e=>rfl
   | ok b=>exact pr b
 · rw [nj _ e rfl,z67 e,z67 e,pr]
 · rw [nj _ e rfl,z65 e,z65 e,nx,show(zdd I s k).Marks=s.Marks from rfl];split<;>rfl
 · rw [nj _ e rfl,z64 e,z64 e,nx];rfl
theorem zabx {i:Int} (h:i.toNat<s.Registers.length):updR s i (rg s i)=s:=by
 have:s.Registers.set i.toNat (rg s i)=s.Registers:=by
  have e:rg s i=s.Registers[i.toNat]:=by unfold rg;rw [gdd,lge h];rfl
  rw [e,List.set_getElem_self]
 unfold updR
 rw [this]
theorem z33 {y:zA} (hk:knl y=true) (h0:0≤y.Place.Offset) {a:Int} (hf:zjr s ⟨a,y.zF,y.Place.Offset⟩):zad s y= .ok (s.At+1,updR s y.R (rg s a)):=by
 unfold knl at hk
 rw [Bool.and_eq_true,decide_eq_true_eq,Bool.not_eq_true']at hk
 have hd:zlk y.zF (s.Storage.Bytes.extract y.Place.Offset.toNat (y.Place.Offset+szE y.zF).toNat)=some (rg s a).N:=hf.mem.resolve_left (by show ¬y.Place.Offset= -1;omega)
 have hsc:(rg s a).Scale=y.zF.Scale:=hf.sc
 rw [ex0 hk.1]
 unfold zor zgz
 rw [zrc hk.2]
 simp only
 rw [hd]
 simp only
 rw [←hsc]
theorem ztx {l:ByteArray} {n:Int} (h:zig s l= .ok (n,t)):t.Steps=s.Steps:=by
 unfold zig at h
 split at h<;>cases h<;>rfl
theorem zabc {y:zA} (hop:0≤y.Op∧y.Op≤26) {n:Int} (h:zad s y= .ok (n,t)):t.Steps=s.Steps:=by
 rcases(by omega:y.Op=0∨y.Op=1∨y.Op=2∨y.Op=3∨y.Op=4∨y.Op=5∨y.Op=6∨y.Op=7∨y.Op=8∨y.Op=9∨y.Op=10∨y.Op=11∨y.Op=12∨y.Op=13∨y.Op=14∨y.Op=15∨y.Op=16∨y.Op=17∨y.Op=18∨y.Op=19∨y.Op=20∨y.Op=21∨y.Op=22∨y.Op=23∨y.Op=24∨y.Op=25∨y.Op=26)with e|e|e|e|e|e|e|e|e|e|e|e|e|e|e|e|e|e|e|e|e|e|e|e|e|e|e
 · rw [ex0 e]at h;split at h<;>cases h;rfl
 · rw [ex1 e]at h;split at h
   · cases h
   · split at h<;>cases h;rfl
 · rw [ex2 e]at h;cases h;rfl
 · rw [ex3 e]at h;cases h;rfl
 · rw [ex4 e]at h;split at h
   · cases h
   · split at h
     · cases h
     · split at h<;>cases h;rfl
 · rw [ex5 e]at h;cases h;rfl
 · rw [ex6 e]at h;cases h;rfl
 · rw [ex7 e]at h;cases h;rfl
 · rw [ex8 e]at h;cases h;rfl
 · rw [ex9 e]at h;split at h
   · cases h
   · split at h<;>cases h;rfl
 · rw [z7l e]at h;split at h<;>cases h;rfl
 · rw [z7k e]at h;split at h
   · cases h
   · split at h<;>cases h;rfl
 · rw [z7j e]at h;split at h<;>cases h;rfl
 · rw [z7i e]at h;cases h;rfl
 · rw [z7h e]at h;split at h<;>cases h;rfl
 · rw [z7g e]at h;split at h<;>cases h;rfl
 · rw [z7f e]at h;split at h
   · cases h
   · split at h<;>cases h;rfl
 · rw [z7e e]at h;split at h<;>cases h;rfl
 · rw [z7d e]at h;split at h<;>cases h;rfl
 · rw [z7c e]at h;split at h<;>cases h<;>rfl
 · rw [z7b e]at h;split at h<;>cases h
 · rw [z7a e]at h;cases h;rfl
 · rw [z69 e]at h;exact ztx h
 · rw [z68 e]at h;split at h
   · cases h
   · exact ztx h
 · rw [z67 e]at h;exact ztx h
 · rw [z65 e]at h;split at h<;>cases h<;>rfl
 · rw [z64 e]at h;cases h;rfl
variable {m:zK} {c:zH} {x:Optimization} {s t:zC} {I:List Int}
theorem zahg {t:zT} {a e:Int} (ha:zwu I a) (h0:0≤t.From) (h1:0≤t.To):zni (zzy (kI I) t) (kI I a.toNat:Int) e=zni t a e:=by
 obtain⟨a0,a1⟩:=ha
 have key:inB (kI I a.toNat:Int) (kI I t.From.toNat:Int) ((kI I t.To.toNat:Int)-1)=inB a t.From (t.To-1):=by
  rw [Bool.eq_iff_iff,zay,zay];constructor
  · rintro ⟨h2,h3⟩
    refine⟨?_,?_⟩
    · refine cbc fun h=> ?_;have:=zur I (show a.toNat+1≤t.From.toNat by omega);omega
    · refine cbc fun h=> ?_;have:=zur I (show t.To.toNat≤a.toNat by omega);omega
  · rintro ⟨h2,h3⟩
    have:=zur I (show t.From.toNat≤a.toNat by omega);have:=zur I (show a.toNat+1≤t.To.toNat by omega);omega
 unfold zni
 show(inB (kI I a.toNat:Int) (kI I t.From.toNat:Int) ((kI I t.To.toNat:Int)-1)&&_)=_
 rw [key]
 rfl
theorem zahb (h:AccV x) {a e:Int} (ha:zwu x.Proof.Index a):zt5 x.After (kI x.Proof.Index a.toNat:Int) e=zt5 x.Before a e:=by
 unfold zt5
 have hl:x.After.zQ.length=x.Before.zQ.length:=by rw [h.trp,lnm]
 rw [hl]
 have gen:∀l:List Nat,(l.findSome? fun i=>(x.After.zQ[i]?).bind fun t=>if zni t (kI x.Proof.Index a.toNat:Int) e=true then some i else none)=l.findSome? fun i=>(x.Before.zQ[i]?).bind fun t=>if zni t a e=true then some i else none:=by
  intro l
  induction l with
  | nil=>rfl
  | cons i l ih=>
   rw [List.findSome?_cons,List.findSome?_cons,ih];have e1:((x.After.zQ[i]?).bind fun t=>if zni t (kI x.Proof.Index a.toNat:Int) e=true then some i else none)=(x.Before.zQ[i]?).bind fun t=>if zni t a e=true then some i else none:=by
    rw [h.trp,List.getElem?_map];cases hx:x.Before.zQ[i]? with
    | none=>rfl
    | some t=>
     have hf:=zrn h.hb (lmg hx);simp only [Option.map_some,obs];rw [zahg ha hf.1 (by omega)]
   rw [e1]
 exact gen _
theorem z8x (h:AccV x) {a e:Int} (ha:zwu x.Proof.Index a):zdv x.After (kI x.Proof.Index a.toNat:Int) e=if 0≤zdv x.Before a e then(kI x.Proof.Index (zdv x.Before a e).toNat:Int)else-1:=by
 unfold zdv
 rw [zahb h ha]
 cases hi:zt5 x.Before a e with
 | none=>rfl
 | some i=>
  obtain⟨t,ht,_⟩:=zta hi;have hf:=zrn h.hb (lmg ht);simp only;rw [h.trp,gdd,gdd,List.getElem?_map,ht];simp only [Option.map_some,Option.getD_some];rw [ifp];rfl
theorem z2c (h:AccV x) (e k:Int):∀(j:Nat) (s:zC),zwu x.Proof.Index s.At→(∀i∈s.Stack,zwu x.Proof.Index i)→ze6 x.After e j (zdd x.Proof.Index s k)=zdd x.Proof.Index (ze6 x.Before e j s) k
 | 0,s,_,_=>rfl
 | j+1,s,ha,hst=>by
  have hh:=z8x h (e:=e) ha;unfold ze6;rw [show(zdd x.Proof.Index s k).At=(kI x.Proof.Index s.At.toNat:Int)from rfl,hh,show(zdd x.Proof.Index s k).Stack.length=s.Stack.length from lnm _]
  by_cases h0:0≤zdv x.Before s.At e
  · rw [ifp h0,ifp h0,ifp (show(0:Int)≤(kI x.Proof.Index (zdv x.Before s.At e).toNat:Int)by omega)];rfl
  · rw [ifn h0,ifn h0,ifn (show ¬(0:Int)≤-1 by decide)]
    by_cases hl:s.Stack.length=0
    · rw [ifp hl,ifp hl];rfl
    · rw [ifn hl,ifn hl];have hx:s.Stack[s.Stack.length-1]?=some (s.Stack.getD (s.Stack.length-1) 0):=by rw [gdd,lge (by omega)];rfl
      have hk:=hst _ (lmg hx);have hg:(zdd x.Proof.Index s k).Stack.getD (s.Stack.length-1) 0=(kI x.Proof.Index (s.Stack.getD (s.Stack.length-1) 0).toNat:Int):=by
       show(s.Stack.map _).getD _ _=_;rw [gdd,List.getElem?_map,hx];rfl
      have e1:updK (updA (zdd x.Proof.Index s k) ((zdd x.Proof.Index s k).Stack.getD (s.Stack.length-1) 0)) ((zdd x.Proof.Index s k).Stack.take (s.Stack.length-1))=
       zdd x.Proof.Index (updK (updA s (s.Stack.getD (s.Stack.length-1) 0)) (s.Stack.take (s.Stack.length-1))) k:=by
       rw [hg,show(zdd x.Proof.Index s k).Stack.take (s.Stack.length-1)=(s.Stack.take (s.Stack.length-1)).map (fun i=>(kI x.Proof.Index i.toNat:Int))from(List.map_take ..).symm];rfl
      rw [e1];exact z2c h e k j _ hk fun i hi=>hst i (List.mem_of_mem_take hi)
theorem zx9 (e:Int):∀(j:Nat) (s:zC),(ze6 c e j s).Steps=s.Steps
 | 0,s=>rfl
 | j+1,s=>by
  unfold ze6;split
  · rfl
  · split
    · rfl
    · exact zx9 e j _
theorem zsp {u:zC} (h:u.Steps≠3000):zqf u=u:=by
 unfold zqf
 rw [ifn fun q=>h q.2]
theorem zabi (h:AccV x) (hs:StV x.Model x.Before s):∀i∈s.Stack,zwu x.Proof.Index i:=fun i hi=>by
 obtain⟨r1,y,r2,r3⟩:=hs.calls i hi
 obtain⟨y',hy,hd⟩:=z05 h (i:=i.toNat) (by omega)
 rw [r2]at hy
 cases hy
 refine⟨r1.1,?_⟩
 rcases hd with⟨_,_,hk,_⟩|⟨hk,_⟩
 · unfold knl at hk;rw [r3]at hk;simp at hk
 · exact hk
theorem zajk (h:AccV x) {n:Nat} (hn:n<x.Before.zB.length):kI x.Proof.Index n<x.After.zB.length:=by
 obtain⟨y,_,hd⟩:=z05 h (i:=x.Before.zB.length-1) (by omega)
 have e:x.Before.zB.length-1+1=x.Before.zB.length:=by omega
 rw [e]at hd
 have hm:=zur x.Proof.Index (show n≤x.Before.zB.length-1 by omega)
 rw [h.len]
 rcases hd with⟨_,h1,_⟩|⟨h1,_⟩
 · omega
 · omega
theorem zaec (h:AccV x) (hs:StV x.Model x.Before s) (h0:s.Status=0) (hT:∀f∈zgm x.Proof.Facts s.At.toNat,zjr s f) {k:Int} (hk0:0≤k) (hk:k≤s.Steps) (h3:s.Steps+1<3000):
 (zdd x.Proof.Index (zhe x.Before s) k=zdd x.Proof.Index s k)∨zhe x.After (zdd x.Proof.Index s k)=zdd x.Proof.Index (zhe x.Before s) (k+1):=by
 have a0:=hs.at0
 have a1:=hs.at1
 have p0:=hs.sp0
 obtain⟨y,hy,hd⟩:=z05 h (i:=s.At.toNat) (by omega)
 have hx:zjn x.Before s=y:=by
  unfold zjn;rw [gdd,hy];rfl
 have hmem:=lmg hy
 have ix:=z41 (h.hb.ins _ hmem)
 have hT1:∀f∈zgm x.Proof.Facts s.At.toNat,zjr (updP s (s.Steps+1)) f:=fun f hf=>(hT f hf).same rfl rfl
 have regs:=hs.regs
 have known:knl y=true→(0≤y.Place.Offset∧0≤y.R∧y.R<x.Model.Registers):=fun hk=>by
  unfold knl at hk;rw [Bool.and_eq_true,decide_eq_true_eq,Bool.not_eq_true']at hk;exact⟨(ix.pl (by omega) hk.2).1,ix.r (by omega)⟩
 rcases hd with⟨d1,d2,d3,d4⟩|⟨d1,z,hz,hd⟩
 · left;have hkn:=known d3;have hE:=z33 d3 hkn.1 (hT1 _ d4);have hE2:updR (updP s (s.Steps+1)) y.R (rg (updP s (s.Steps+1)) y.R)=updP s (s.Steps+1):=zabx (by show y.R.toNat<s.Registers.length;omega);rw [hE2]at hE;unfold zhe;rw [hx,hE];simp only;rw [ifn (show ¬(updP s (s.Steps+1)).Status≠0 from fun q=>q h0),ifn (show ¬(updP s (s.Steps+1)).At+1=(x.Before.zB.length:Int)by show ¬s.At+1=_;omega),zsp (show s.Steps+1≠3000 by omega)];have e:(s.At+1).toNat=s.At.toNat+1:=by omega
   show zdd x.Proof.Index (updA (updP s (s.Steps+1)) (s.At+1)) k=_;unfold zdd;show(⟨s.Registers,s.Condition,s.Storage,(kI x.Proof.Index (s.At+1).toNat:Int),_,s.Lines,s.Status,s.Exception,s.Marks,k⟩:zC)=_;rw [e,d1];rfl
 · right;have hkp:zwu x.Proof.Index s.At:=⟨a0,d1⟩;have hstk:=zabi h hs;have hx':zjn x.After (zdd x.Proof.Index s k)=z:=by
    unfold zjn;show x.After.zB.getD ((kI x.Proof.Index s.At.toNat:Nat):Int).toNat _=z;rw [itn,gdd,hz];rfl
   have hsim:zad (zdd x.Proof.Index (updP s (s.Steps+1)) (k+1)) z=z5r x.Proof.Index (k+1) (zad (updP s (s.Steps+1)) y):=by
    rcases hd with rfl|⟨q1,a,rfl,q3⟩
    · exact zaee ix.op hkp hstk
    · have hkn:=known q1;rw [z33 q1 hkn.1 (hT1 _ q3),ex3 (show(cpI y a).Op=3 from rfl)];have nx:(zdd x.Proof.Index (updP s (s.Steps+1)) (k+1)).At+1=(kI x.Proof.Index (s.At+1).toNat:Int):=by
       show(kI x.Proof.Index s.At.toNat:Int)+1=_;rw [show(s.At+1).toNat=s.At.toNat+1 by omega,d1];omega
      rw [nx];rfl
   unfold zhe;rw [hx',hx];have eP:updP (zdd x.Proof.Index s k) ((zdd x.Proof.Index s k).Steps+1)=zdd x.Proof.Index (updP s (s.Steps+1)) (k+1):=rfl;rw [eP,hsim];cases hE:zad (updP s (s.Steps+1)) y with
   | error e=>
    simp only [z5r];rw [show(zdd x.Proof.Index s k).Stack.length=s.Stack.length from lnm _];have eU:updE (zdd x.Proof.Index (updP s (s.Steps+1)) (k+1)) e=zdd x.Proof.Index (updE (updP s (s.Steps+1)) e) (k+1):=rfl;rw [eU,z2c h e (k+1) (s.Stack.length+1) (updE (updP s (s.Steps+1)) e) hkp hstk,zsp,zsp]
    · rw [zx9];show s.Steps+1≠3000;omega
    · show k+1≠3000;omega
   | ok r=>
    obtain⟨n,t⟩:=r;have hst:=zabc ix.op hE;have hst:t.Steps=s.Steps+1:=hst;simp only [z5r];rw [show(zdd x.Proof.Index t (k+1)).Status=t.Status from rfl]
    by_cases ht:t.Status≠0
    · rw [ifp ht,ifp ht]
    · rw [ifn ht,ifn ht];have ht:t.Status=0:=Decidable.not_not.1 ht;have hn:0≤n∧n≤(x.Before.zB.length:Int):=by
       rcases z4d ix.op hE ht h0 with⟨k1,k2⟩|⟨k1,k2⟩|⟨k1,i,k2,k3⟩
       · have k1:n=s.At+1:=k1;omega
       · have:=ix.tg (by unfold zgs at k1;simp only [Bool.or_eq_true,decide_eq_true_eq]at k1;omega);omega
       · have:=hs.calls i k2;omega
      by_cases hl:n=(x.Before.zB.length:Int)
      · rw [ifp hl,ifp (by rw [hl,itn,h.len])];rfl
      · rw [ifn hl,ifn (by have:=zajk h (n:=n.toNat) (by omega);omega),zsp (u:=updA t n) (show t.Steps≠3000 by omega),zsp (u:=updA (zdd x.Proof.Index t (k+1)) (kI x.Proof.Index n.toNat:Int)) (show k+1≠3000 by omega)];rfl
variable {m:zK} {c:zH} {x:Optimization} {s t:zC} {I:List Int}
theorem zagf (hc:CodeV m c) (hs:StV m c s) (h0:s.Status=0) (h3:s.Steps<3000):StV m c (zhe c s)∧(zhe c s).Steps=s.Steps+1∧((zhe c s).Status=0→s.Steps+1<3000):=(z3s 20001 (by decide) hc hs h0 h3).2.2
theorem z0a {k:Nat} (h:s.Status≠0):zlr c k s=s:=by
 cases k with
 | zero=>rfl
 | succ k=>unfold zlr;rw [ifn h]
theorem z2w (h:AccV x):∀(K:Nat) (s:zC) (k:Int),StV x.Model x.Before s→(s.Status=0→s.Steps<3000)→(s.Status=0→∀f∈zgm x.Proof.Facts s.At.toNat,zjr s f)→0≤k→k≤s.Steps→3000-s.Steps<(K:Int)→∀K',K≤K'→(zlr x.Before K s).Steps≠3000→
 ∃k',0≤k'∧k'≤(zlr x.Before K s).Steps∧zlr x.After K' (zdd x.Proof.Index s k)=zdd x.Proof.Index (zlr x.Before K s) k'
 | 0,s,k,hs,_,_,_,_,h1,_,_,_=>by
  have:=hs.sp1;omega
 | K+1,s,k,hs,hr,hT,hk0,hk,hK,K',hKK,hne=>by
  obtain⟨J,rfl⟩:∃J,K'=J+1:=⟨K'-1,by omega⟩
  by_cases h0:s.Status=0
  · have h3:=hr h0;obtain⟨g1,g2,g3⟩:=zagf h.hb hs h0 h3;have e1:zlr x.Before (K+1) s=zlr x.Before K (zhe x.Before s):=by
     show(if s.Status=0 then _ else _)=_;rw [ifp h0]
    rw [e1]at hne⊢;have h4:s.Steps+1<3000:=by
     refine cbc fun hn=> ?_;have hst:(zhe x.Before s).Status≠0:=fun q=>hn (g3 q);rw [z0a hst,g2]at hne;omega
    have hT':(zhe x.Before s).Status=0→∀f∈zgm x.Proof.Facts (zhe x.Before s).At.toNat,zjr (zhe x.Before s) f:=fun q=>zab3 h.hb hs h0 h3 h.fac (hT h0) q;rcases zaec h hs h0 (hT h0) hk0 hk h4 with q|q
    · rw [←q];exact z2w h K _ k g1 (fun w=>by have:=g3 w;omega) hT' hk0 (by omega) (by omega) (J+1) (by omega) hne
    · have e2:zlr x.After (J+1) (zdd x.Proof.Index s k)=zlr x.After J (zdd x.Proof.Index (zhe x.Before s) (k+1)):=by
       show(if s.Status=0 then _ else _)=_;rw [ifp h0,q]
      rw [e2];exact z2w h K _ (k+1) g1 (fun w=>by have:=g3 w;omega) hT' (by omega) (by omega) (by omega) J (by omega) hne
  · rw [z0a h0,z0a (show(zdd x.Proof.Index s k).Status≠0 from h0)];exact⟨k,hk0,hk,rfl⟩
theorem zaej (h:AccV x) (hne:(zlr x.Before 3001 (zml x.Model x.Before)).Steps≠3000):∃k',0≤k'∧k'≤(zlr x.Before 3001 (zml x.Model x.Before)).Steps∧zlr x.After 3001 (zml x.Model x.After)=zdd x.Proof.Index (zlr x.Before 3001 (zml x.Model x.Before)) k':=by
 have e:zml x.Model x.After=zdd x.Proof.Index (zml x.Model x.Before) 0:=by
  unfold zml;rw [h.sto];rfl
 rw [e]
 refine z2w h 3001 _ 0 (zz1 h.hb) (fun _=>by show(0:Int)<3000;decide) (fun _ f hf=> ?_) (Int.le_refl _) (Int.le_refl _) (by show(3000:Int)-0<((3001:Nat):Int);decide) 3001 (Nat.le_refl _) hne
 have:zgm x.Proof.Facts (zml x.Model x.Before).At.toNat=[]:=h.fac.ent 0 h.hb.pos rfl
 rw [this]at hf
 simp at hf
theorem z9i (N:Nat) {m:zK} {c:zH} {r:Int × Int} (h:zj N m c=some r):zge N m c=some r.2:=by
 unfold zge
 rw [h]
 rfl
theorem z5y (N:Nat) (hN:20000<N) {m:zK} {c:zH} (hc:CodeV m c) (z:zY):∀(k:Nat) (s:zC),StV m c s→(s.Status=0→s.Steps<3000)→(3000-s.Steps<(k:Int))→∀K:Nat,k≤K→
 zi (zdo.r0 N) K (c,z,s)=some (c,z,zlr c k s)∧StV m c (zlr c k s)
 | 0,s,hs,h1,h2,K,hK=>by
  have:=hs.sp1;omega
 | k+1,s,hs,h1,h2,K,hK=>by
  obtain⟨K,rfl⟩:∃J,K=J+1:=⟨K-1,by omega⟩;simp only [zi,zdo.r0,zdo.b0,zbx];unfold zlr
  by_cases hst:s.Status=0
  · obtain⟨g1,g2,g3,g4,g5⟩:=z3s N hN hc hs hst (h1 hst);rw [dct hst,ifp hst,g1];simp only [ctr,obs];exact z5y N hN hc z k _ g3 (fun h=>by rw [g4];exact g5 h) (by rw [g4];omega) K (by omega)
  · rw [dcf hst,ifn hst];simp only [cfa,obs];exact⟨trivial,hs⟩
theorem z9g (N:Nat) (hN:20000<N) {m:zK} {c:zH} (hc:CodeV m c) (hk:zge N m c=some 0):zdo N m c=some (resV (zlr c 3001 (zml m c)),0):=by
 unfold zdo
 rw [zaex N hc hk]
 simp only [obs,bsf,cfa]
 rw [(z5y N hN hc ⟨[],0,0,0,0,⟨⟨#[]⟩,[]⟩⟩ 3001 _ (zz1 hc) (fun _=>by show(0:Int)<3000;omega) (by show(3000:Int)-0<3001;omega) N (by omega)).1]
 rfl
theorem zaeg {x:Optimization} (h:AccV x):∃a b:zY,zdo 2000000 x.Model x.Before=some (a,0)∧zdo 2000000 x.Model x.After=some (b,0)∧(a.Steps≠3000→b.Steps≤a.Steps∧∃r,zgb a=some r∧zgb b=some r∧zhj 2000000 r r=some true):=by
 obtain⟨n1,k1⟩:=h.kb
 obtain⟨n2,k2⟩:=h.ka
 refine⟨_,_,z9g 2000000 (by decide) h.hb (z9i _ k1),z9g 2000000 (by decide) h.ha (z9i _ k2),fun hne=> ?_⟩
 obtain⟨k',g0,g1,g2⟩:=zaej h hne
 have hv:=(z5y 2000000 (by decide) h.hb ⟨[],0,0,0,0,⟨⟨#[]⟩,[]⟩⟩ 3001 _ (zz1 h.hb) (fun _=>by show(0:Int)<3000;omega) (by show(3000:Int)-0<3001;omega) 2000000 (by omega)).2
 rw [g2]
 generalize zlr x.Before 3001 (zml x.Model x.Before)=s at*
 have hl:=hv.lines
 have ht:=hv.sto.tags
 have hz:=hv.sto.le
 refine⟨g1,⟨s.Lines,s.Status,s.Exception,s.Marks,0,s.Storage⟩,rfl,rfl,?_⟩
 refine z8p 2000000 _ ?_ ?_ ?_ ?_
 · show s.Lines.length<_;omega
 · show s.Lines.length<_;omega
 · show s.Storage.Tags.length<_;omega
 · show s.Storage.Tags.length<_;omega
theorem plainTranslateSame:zja:=by
 intro x hx
 refine⟨2000000,?_⟩
 have h:=zai8 hx
 obtain⟨b,hb,hb2⟩:=zahi 2000000 (by decide) h
 unfold zg3
 rw [zaig]
 simp only [obs,bnt,cfa]
 rw [hb]
 cases b with
 | false=>rfl
 | true=>
  obtain⟨h1,h2,h3⟩:=hb2 rfl;obtain⟨⟨rn,re⟩,hr1⟩:=zag6 2000000 (by decide) h h1 h2;simp only [obs,bnt,cfa];rw [zag1 2000000 (by decide) h h1 h2,obs,hr1,obs]
  by_cases he:re=0
  · subst he;have acc:=zake 2000000 (by decide) rfl h h1 h2 hr1;obtain⟨u,v,q1,q2,q3⟩:=zaeg acc;rw [zvz h.b,zvz h.a];simp only [obs,bsf,cfa];rw [q1,q2];simp only [obs,bsf,cfa]
    by_cases h4:u.Steps=3000
    · rw [show(u.Steps==3000)=true by simpa using h4];rfl
    · obtain⟨w1,r,w2,w3,w4⟩:=q3 h4;rw [show(u.Steps==3000)=false by simpa using h4,w2,w3,dct w1];simp only [obs,cfa,ctr];rw [w4];cases(v.Steps==3000)<;>rfl
  · rw [show(re !=0)=true by simpa using he];rfl
end
end Go.Proofs.YtbmfjmakahmclaaGreatDoor.M
namespace Go.Proofs.YtbmfjmakahmclaaGreatDoor
theorem translateSame_card:Rows.TranslateSameUptoCardSaid:=M.cardTranslateSame M.plainTranslateSame
#print axioms translateSame_card
end Go.Proofs.YtbmfjmakahmclaaGreatDoor
