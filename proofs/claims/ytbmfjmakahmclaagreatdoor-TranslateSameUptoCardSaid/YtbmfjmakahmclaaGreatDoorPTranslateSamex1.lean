/- The plain law of TranslateSame: part 1. -/
import Derived.Test.YtbmfjmakahmclaaGreatDoorPTranslateSamex0
namespace Go.Proofs.YtbmfjmakahmclaaGreatDoor.M
open Go Go.Amx
set_option linter.unusedVariables false
set_option linter.unusedSimpArgs false
set_option maxRecDepth 100000
noncomputable section
theorem zadv {a b:List Bool} (h:a.length=b.length):(List.range a.length).findSome? (z04 a b)=if a=b then none else some false:=by
 by_cases e:a=b
 · subst e;rw [ifp rfl,List.findSome?_eq_none_iff];intro i hi;have hi:i<a.length:=by simpa using hi
   unfold z04;rw [lge hi,obs,obs,ifp rfl]
 · rw [ifn e];cases hf:(List.range a.length).findSome? (z04 a b)with
   | none=>
    refine absurd ?_ e;rw [List.findSome?_eq_none_iff]at hf;apply List.ext_getElem h;intro i h1 h2;have:=hf i (by simpa using h1);unfold z04 at this;rw [lge h1,lge h2,obs,obs]at this;split at this
    · rename_i h3;exact h3
    · cases this
   | some v=>
    obtain⟨i,_,hv⟩:=eof hf;unfold z04 at hv;rw [Option.bind_eq_some_iff]at hv;obtain⟨u,_,hv⟩:=hv;rw [Option.bind_eq_some_iff]at hv;obtain⟨w,_,hv⟩:=hv;split at hv
    · cases hv
    · cases hv;rfl
theorem z5p (N:Nat) (a b:List Bool) (h:a.length<N) (hl:a.length<1000000000):zbw N a b=some (decide (a=b)):=by
 unfold zbw
 rw [zde]
 by_cases e:(a.length:Int)=(b.length:Int)
 · rw [dcf (show ¬(a.length:Int)≠(b.length:Int)from fun h=>h e)];have l1:=zcm (f:=zbw.r0 N) (fun i=>(a,b,(a.length:Int),(i:Int))) (z04 a b) a.length (fun i hi=>by
    have hx:=lge hi;have hy:=lge (show i<b.length by omega);generalize a[i]=u at hx;generalize b[i]=v at hy;simp only [zbw.r0,zbw.b0,z04,zau,hx,hy,obs,dct (show(i:Int)<(a.length:Int)by omega),ctr];rw [w6e];cases u<;>cases v<;>rfl)
    (by simp only [zbw.r0,zbw.b0,dcf (Int.lt_irrefl _),cfa]) h
   simp only [nc0]at l1;rw [cfa,l1,zadv (by omega)]
   by_cases e2:a=b
   · rw [ifp e2,dct e2];rfl
   · rw [ifn e2,dcf e2];rfl
 · rw [dct (show(a.length:Int)≠(b.length:Int)from e),dcf (show ¬a=b from fun h=>e (by rw [h]))];rfl
theorem zafk {n:Int} (h1:0≤n) (h2:n<18446744073709551616):IntKind.wrap .u64 n=n:=by
 have e:(2:Int)^(IntKind.u64.bits)=18446744073709551616:=by decide
 unfold IntKind.wrap
 simp only [e,show IntKind.u64.signed=false from rfl,Bool.false_and]
 simp only [Bool.false_eq_true,if_false]
 omega
theorem zuh {n:Int} (h1:0≤n) (h2:n<256):IntKind.wrap .u8 n=n:=by
 have e:(2:Int)^(IntKind.u8.bits)=256:=by decide
 unfold IntKind.wrap
 simp only [e,show IntKind.u8.signed=false from rfl,Bool.false_and]
 simp only [Bool.false_eq_true,if_false]
 omega
theorem orU (x y:Nat) (hx:x<2^64) (hy:y<2^64):orI .u64 (x:Int) (y:Int)=((x|||y:Nat):Int):=by
 have h:=Nat.or_lt_two_pow hx hy
 unfold orI
 have e:(BitVec.ofInt IntKind.u64.bits (x:Int)|||BitVec.ofInt IntKind.u64.bits (y:Int)).toNat=(x|||y):=by
  show(BitVec.ofInt 64 (x:Int)|||BitVec.ofInt 64 (y:Int)).toNat=_;rw [BitVec.toNat_or,BitVec.ofInt_natCast,BitVec.ofInt_natCast,BitVec.toNat_ofNat,BitVec.toNat_ofNat,mel hx,mel hy]
 rw [e]
 exact zafk (by omega) (by omega)
theorem andU (x y:Nat) (hx:x<2^64) (hy:y<2^64):zg .u64 (x:Int) (y:Int)=((x&&&y:Nat):Int):=by
 have h:=Nat.and_lt_two_pow x hy
 unfold zg
 have e:(BitVec.ofInt IntKind.u64.bits (x:Int)&&&BitVec.ofInt IntKind.u64.bits (y:Int)).toNat=(x&&&y):=by
  show(BitVec.ofInt 64 (x:Int)&&&BitVec.ofInt 64 (y:Int)).toNat=_;rw [BitVec.toNat_and,BitVec.ofInt_natCast,BitVec.ofInt_natCast,BitVec.toNat_ofNat,BitVec.toNat_ofNat,mel hx,mel hy]
 rw [e]
 exact zafk (by omega) (by omega)
def wn (n:Nat):zJ:=⟨(n%18446744073709551616:Nat),(n/18446744073709551616%18446744073709551616:Nat),(n/18446744073709551616/18446744073709551616%18446744073709551616:Nat),(n/18446744073709551616/18446744073709551616/18446744073709551616%18446744073709551616:Nat)⟩
def zll:Nat:=115792089237316195423570985008687907853269984665640564039457584007913129639936
theorem zabu {x y:zJ} (h0:x.e0=y.e0) (h1:x.e1=y.e1) (h2:x.e2=y.e2) (h3:x.e3=y.e3):x=y:=by
 cases x;cases y;simp_all
theorem z3y {n:Nat} (h:n<18446744073709551616):zb7 (n:Int)=some (wn n):=by
 unfold zb7 wn
 congr 2<;>omega
theorem zalr (N:Nat) (a b w o:zJ):zaj.r0 N (0,0,a,b,w,o)=some (.again (((a.e0.toNat+b.e0.toNat+0)/2^64:Nat),1,a,b,w,⟨((a.e0.toNat+b.e0.toNat+0)%2^64:Nat),o.e1,o.e2,o.e3⟩)):=by kernel_rfl
theorem zalq (N c:Nat) (hc:¬c>1) (a b w o:zJ):zaj.r0 N (c,1,a,b,w,o)=some (.again (((a.e1.toNat+b.e1.toNat+c)/2^64:Nat),2,a,b,w,⟨o.e0,((a.e1.toNat+b.e1.toNat+c)%2^64:Nat),o.e2,o.e3⟩)):=by
 have:zaj.r0 N (c,1,a,b,w,o)=if c>1 then none else some (.again (((a.e1.toNat+b.e1.toNat+c)/2^64:Nat),2,a,b,w,⟨o.e0,((a.e1.toNat+b.e1.toNat+c)%2^64:Nat),o.e2,o.e3⟩)):=by kernel_rfl
 rw [this,ifn hc]
theorem zalp (N c:Nat) (hc:¬c>1) (a b w o:zJ):zaj.r0 N (c,2,a,b,w,o)=some (.again (((a.e2.toNat+b.e2.toNat+c)/2^64:Nat),3,a,b,w,⟨o.e0,o.e1,((a.e2.toNat+b.e2.toNat+c)%2^64:Nat),o.e3⟩)):=by
 have:zaj.r0 N (c,2,a,b,w,o)=if c>1 then none else some (.again (((a.e2.toNat+b.e2.toNat+c)/2^64:Nat),3,a,b,w,⟨o.e0,o.e1,((a.e2.toNat+b.e2.toNat+c)%2^64:Nat),o.e3⟩)):=by kernel_rfl
 rw [this,ifn hc]
theorem zalo (N c:Nat) (hc:¬c>1) (a b w o:zJ):zaj.r0 N (c,3,a,b,w,o)=some (.again (((a.e3.toNat+b.e3.toNat+c)/2^64:Nat),4,a,b,w,⟨o.e0,o.e1,o.e2,((a.e3.toNat+b.e3.toNat+c)%2^64:Nat)⟩)):=by
 have:zaj.r0 N (c,3,a,b,w,o)=if c>1 then none else some (.again (((a.e3.toNat+b.e3.toNat+c)/2^64:Nat),4,a,b,w,⟨o.e0,o.e1,o.e2,((a.e3.toNat+b.e3.toNat+c)%2^64:Nat)⟩)):=by kernel_rfl
 rw [this,ifn hc]
theorem zaln (N:Nat) (c:Int) (a b w o:zJ):zaj.r0 N (c,4,a,b,w,o)=some (.leave (c,4,a,b,w,o)):=by kernel_rfl
theorem addc (x y c:Nat):(x%18446744073709551616+y%18446744073709551616+c)%2^64=(x+y+c)%18446744073709551616∧x/18446744073709551616+y/18446744073709551616+(x%18446744073709551616+y%18446744073709551616+c)/2^64=(x+y+c)/18446744073709551616∧(c≤1→¬(x%18446744073709551616+y%18446744073709551616+c)/2^64>1):=by omega
theorem zy5 (N:Nat) (hN:10<N) (a b:Nat):zaj N (wn a) (wn b)=some (wn (a+b)):=by
 obtain⟨n,rfl⟩:∃n,N=n+5:=⟨N-5,by omega⟩
 obtain⟨l0,m0,c0⟩:=addc a b 0
 have c0':=c0 (by omega)
 obtain⟨l1,m1,c1⟩:=addc (a/18446744073709551616) (b/18446744073709551616) ((a%18446744073709551616+b%18446744073709551616+0)/2^64)
 have c1':=c1 (by omega)
 rw [m0]at l1 m1
 obtain⟨l2,m2,c2⟩:=addc (a/18446744073709551616/18446744073709551616) (b/18446744073709551616/18446744073709551616) ((a/18446744073709551616%18446744073709551616+b/18446744073709551616%18446744073709551616+(a%18446744073709551616+b%18446744073709551616+0)/2^64)/2^64)
 have c2':=c2 (by omega)
 rw [m1]at l2 m2
 obtain⟨l3,_,_⟩:=addc (a/18446744073709551616/18446744073709551616/18446744073709551616) (b/18446744073709551616/18446744073709551616/18446744073709551616) ((a/18446744073709551616/18446744073709551616%18446744073709551616+b/18446744073709551616/18446744073709551616%18446744073709551616+(a/18446744073709551616%18446744073709551616+b/18446744073709551616%18446744073709551616+(a%18446744073709551616+b%18446744073709551616+0)/2^64)/2^64)/2^64)
 rw [m2]at l3
 unfold zaj
 simp only [zi,zalr,obs]
 simp only [wn,itn]
 rw [zalq _ _ c0']
 simp only [obs,itn]
 rw [zalp _ _ c1']
 simp only [obs,itn]
 rw [zalo _ _ c2']
 simp only [obs,itn]
 rw [zaln,l0,l1,l2,l3]
 rfl
theorem zajg (N:Nat) (a b w o:zJ):zag.r0 N (0,0,a,b,w,o)=some (.again (((if a.e0.toNat<b.e0.toNat+0 then 1 else 0:Nat):Int),1,a,b,w,⟨((a.e0.toNat+2^64-b.e0.toNat-0)%2^64:Nat),o.e1,o.e2,o.e3⟩)):=by kernel_rfl
theorem zajf (N c:Nat) (hc:¬c>1) (a b w o:zJ):zag.r0 N (c,1,a,b,w,o)=some (.again (((if a.e1.toNat<b.e1.toNat+c then 1 else 0:Nat):Int),2,a,b,w,⟨o.e0,((a.e1.toNat+2^64-b.e1.toNat-c)%2^64:Nat),o.e2,o.e3⟩)):=by
 have:zag.r0 N (c,1,a,b,w,o)=if c>1 then none else some (.again (((if a.e1.toNat<b.e1.toNat+c then 1 else 0:Nat):Int),2,a,b,w,⟨o.e0,((a.e1.toNat+2^64-b.e1.toNat-c)%2^64:Nat),o.e2,o.e3⟩)):=by kernel_rfl
 rw [this,ifn hc]
theorem zaje (N c:Nat) (hc:¬c>1) (a b w o:zJ):zag.r0 N (c,2,a,b,w,o)=some (.again (((if a.e2.toNat<b.e2.toNat+c then 1 else 0:Nat):Int),3,a,b,w,⟨o.e0,o.e1,((a.e2.toNat+2^64-b.e2.toNat-c)%2^64:Nat),o.e3⟩)):=by
 have:zag.r0 N (c,2,a,b,w,o)=if c>1 then none else some (.again (((if a.e2.toNat<b.e2.toNat+c then 1 else 0:Nat):Int),3,a,b,w,⟨o.e0,o.e1,((a.e2.toNat+2^64-b.e2.toNat-c)%2^64:Nat),o.e3⟩)):=by kernel_rfl
 rw [this,ifn hc]
theorem zajd (N c:Nat) (hc:¬c>1) (a b w o:zJ):zag.r0 N (c,3,a,b,w,o)=some (.again (((if a.e3.toNat<b.e3.toNat+c then 1 else 0:Nat):Int),4,a,b,w,⟨o.e0,o.e1,o.e2,((a.e3.toNat+2^64-b.e3.toNat-c)%2^64:Nat)⟩)):=by
 have:zag.r0 N (c,3,a,b,w,o)=if c>1 then none else some (.again (((if a.e3.toNat<b.e3.toNat+c then 1 else 0:Nat):Int),4,a,b,w,⟨o.e0,o.e1,o.e2,((a.e3.toNat+2^64-b.e3.toNat-c)%2^64:Nat)⟩)):=by kernel_rfl
 rw [this,ifn hc]
theorem zajc (N:Nat) (c:Int) (a b w o:zJ):zag.r0 N (c,4,a,b,w,o)=some (.leave (c,4,a,b,w,o)):=by kernel_rfl
theorem zaa4 (p:Prop) [Decidable p]:(if p then 1 else 0:Nat)≤1:=by split<;>omega
theorem subc (x y c k:Nat) (hk:k=c) (hc:c≤1):((x+y+c)%18446744073709551616+2^64-y%18446744073709551616-k)%2^64=x%18446744073709551616∧(if(x+y+c)%18446744073709551616<y%18446744073709551616+k then 1 else 0:Nat)=(x%18446744073709551616+y%18446744073709551616+c)/2^64∧(x%18446744073709551616+y%18446744073709551616+c)/2^64≤1∧(x+y+c)/18446744073709551616=x/18446744073709551616+y/18446744073709551616+(x%18446744073709551616+y%18446744073709551616+c)/2^64:=by
 subst hk
 refine⟨by omega,?_,by omega,by omega⟩
 split<;>omega
theorem zx4 (N:Nat) (hN:10<N) (a b:Nat):∃r,zag N (wn a) (wn b)=some r∧(b≤a→r=wn (a-b)):=by
 obtain⟨n,rfl⟩:∃n,N=n+5:=⟨N-5,by omega⟩
 unfold zag
 simp only [zi,zajg,obs]
 have t1:¬(if(wn a).e0.toNat<(wn b).e0.toNat+0 then 1 else 0:Nat)>1:=by have:=zaa4 ((wn a).e0.toNat<(wn b).e0.toNat+0);omega
 rw [zajf _ _ t1]
 simp only [obs]
 have t2:=zaa4 ((wn a).e1.toNat<(wn b).e1.toNat+(if(wn a).e0.toNat<(wn b).e0.toNat+0 then 1 else 0:Nat))
 rw [zaje _ _ (by omega)]
 simp only [obs]
 have t3:=zaa4 ((wn a).e2.toNat<(wn b).e2.toNat+(if(wn a).e1.toNat<(wn b).e1.toNat+(if(wn a).e0.toNat<(wn b).e0.toNat+0 then 1 else 0:Nat)then 1 else 0:Nat))
 rw [zajd _ _ (by omega)]
 simp only [obs]
 rw [zajc]
 refine⟨_,rfl,fun hb=> ?_⟩
 obtain⟨d,rfl⟩:∃d,a=d+b:=⟨a-b,by omega⟩
 clear t1 t2 t3
 rw [Nat.add_sub_cancel]
 obtain⟨s0,u0,v0,w0⟩:=subc d b 0 0 rfl (by omega)
 rw [Nat.add_zero (d+b)]at s0 u0 w0
 obtain⟨s1,u1,v1,w1⟩:=subc (d/18446744073709551616) (b/18446744073709551616) _ _ u0 v0
 rw [←w0]at s1 u1 w1
 obtain⟨s2,u2,v2,w2⟩:=subc (d/18446744073709551616/18446744073709551616) (b/18446744073709551616/18446744073709551616) _ _ u1 v1
 rw [←w1]at s2 u2 w2
 obtain⟨s3,u3,v3,w3⟩:=subc (d/18446744073709551616/18446744073709551616/18446744073709551616) (b/18446744073709551616/18446744073709551616/18446744073709551616) _ _ u2 v2
 rw [←w2]at s3
 refine zabu ?_ ?_ ?_ ?_
 · exact congrArg Int.ofNat s0
 · exact congrArg Int.ofNat s1
 · exact congrArg Int.ofNat s2
 · exact congrArg Int.ofNat s3
theorem z0o (N:Nat) (hN:10<N) {a b:Nat} (h:b≤a):zag N (wn a) (wn b)=some (wn (a-b)):=by
 obtain⟨r,h1,h2⟩:=zx4 N hN a b
 rw [h1,h2 h]
def zlw (a b:Nat):Int:=if a<b then-1 else if b<a then 1 else 0
theorem cmp3 (N:Nat) (a b:zJ):zo.r0 N (3,a,b)=cond (decide (a.e3<b.e3)) (some (.result (-1))) (cond (decide (a.e3>b.e3)) (some (.result 1)) (some (.again (2,a,b)))):=by kernel_rfl
theorem cmp2 (N:Nat) (a b:zJ):zo.r0 N (2,a,b)=cond (decide (a.e2<b.e2)) (some (.result (-1))) (cond (decide (a.e2>b.e2)) (some (.result 1)) (some (.again (1,a,b)))):=by kernel_rfl
theorem cmp1 (N:Nat) (a b:zJ):zo.r0 N (1,a,b)=cond (decide (a.e1<b.e1)) (some (.result (-1))) (cond (decide (a.e1>b.e1)) (some (.result 1)) (some (.again (0,a,b)))):=by kernel_rfl
theorem cmp0 (N:Nat) (a b:zJ):zo.r0 N (0,a,b)=cond (decide (a.e0<b.e0)) (some (.result (-1))) (cond (decide (a.e0>b.e0)) (some (.result 1)) (some (.again ((-1),a,b)))):=by kernel_rfl
theorem cmpE (N:Nat) (a b:zJ):zo.r0 N ((-1),a,b)=some (.leave ((-1),a,b)):=by kernel_rfl
def zqa (x y R:Int):Int:=if x<y then-1 else if y<x then 1 else R
theorem zadk (n:Nat) (a b:zJ):zo (n+5) a b=some (zqa a.e3 b.e3 (zqa a.e2 b.e2 (zqa a.e1 b.e1 (zqa a.e0 b.e0 0)))):=by
 unfold zo zqa
 simp only [zp,cmp3]
 by_cases h3:a.e3<b.e3
 · rw [ifp h3,dct h3];rfl
 · rw [ifn h3,dcf h3]
   by_cases g3:b.e3<a.e3
   · rw [ifp g3,dct g3];rfl
   · rw [ifn g3,dcf g3];simp only [cfa,obs,cmp2]
     by_cases h2:a.e2<b.e2
     · rw [ifp h2,dct h2];rfl
     · rw [ifn h2,dcf h2]
       by_cases g2:b.e2<a.e2
       · rw [ifp g2,dct g2];rfl
       · rw [ifn g2,dcf g2];simp only [cfa,obs,cmp1]
         by_cases h1:a.e1<b.e1
         · rw [ifp h1,dct h1];rfl
         · rw [ifn h1,dcf h1]
           by_cases g1:b.e1<a.e1
           · rw [ifp g1,dct g1];rfl
           · rw [ifn g1,dcf g1];simp only [cfa,obs,cmp0]
             by_cases h0:a.e0<b.e0
             · rw [ifp h0,dct h0];rfl
             · rw [ifn h0,dcf h0]
               by_cases g0:b.e0<a.e0
               · rw [ifp g0,dct g0];rfl
               · rw [ifn g0,dcf g0];simp only [cfa,obs,cmpE];rfl
theorem znx (N:Nat) (hN:10<N) {a b:Nat} (ha:a<zll) (hb:b<zll):zo N (wn a) (wn b)=some (zlw a b):=by
 obtain⟨n,rfl⟩:∃n,N=n+5:=⟨N-5,by omega⟩
 unfold zll at ha hb
 rw [zadk]
 have k0:∀x y:Nat,zqa (x:Int) (y:Int) 0=zlw x y:=fun x y=>by
  unfold zqa zlw
  repeat' split
  all_goals first|rfl|(exfalso;omega)
 have top:a/18446744073709551616/18446744073709551616/18446744073709551616<18446744073709551616:=by omega
 have top2:b/18446744073709551616/18446744073709551616/18446744073709551616<18446744073709551616:=by omega
 have s1:∀(x y:Nat) (R:Int),zqa ((x:Nat):Int) ((y:Nat):Int) R=if zlw x y=0 then R else zlw x y:=fun x y R=>by
  unfold zqa zlw
  repeat' split
  all_goals first|rfl|(exfalso;omega)|contradiction
 have s2:∀x y:Nat,zlw x y=if zlw (x/18446744073709551616) (y/18446744073709551616)=0 then zlw (x%18446744073709551616) (y%18446744073709551616)else zlw (x/18446744073709551616) (y/18446744073709551616):=fun x y=>by
  unfold zlw
  repeat' split
  all_goals first|rfl|(exfalso;omega)|contradiction
 show some (zqa (((a/18446744073709551616/18446744073709551616/18446744073709551616%18446744073709551616:Nat):Int)) (((b/18446744073709551616/18446744073709551616/18446744073709551616%18446744073709551616:Nat):Int)) (zqa (((a/18446744073709551616/18446744073709551616%18446744073709551616:Nat):Int)) (((b/18446744073709551616/18446744073709551616%18446744073709551616:Nat):Int)) (zqa (((a/18446744073709551616%18446744073709551616:Nat):Int)) (((b/18446744073709551616%18446744073709551616:Nat):Int)) (zqa (((a%18446744073709551616:Nat):Int)) (((b%18446744073709551616:Nat):Int)) 0))))=_
 rw [mel top,mel top2,s1,s1,s1,s1]
 have r3:=s2 (a/18446744073709551616/18446744073709551616) (b/18446744073709551616/18446744073709551616)
 have r2:=s2 (a/18446744073709551616) (b/18446744073709551616)
 have r1:=s2 a b
 clear s1 s2 top top2 ha hb k0
 generalize zlw (a/18446744073709551616/18446744073709551616/18446744073709551616) (b/18446744073709551616/18446744073709551616/18446744073709551616)=o3 at*
 generalize zlw (a/18446744073709551616/18446744073709551616%18446744073709551616) (b/18446744073709551616/18446744073709551616%18446744073709551616)=m2 at*
 generalize zlw (a/18446744073709551616%18446744073709551616) (b/18446744073709551616%18446744073709551616)=m1 at*
 generalize zlw (a%18446744073709551616) (b%18446744073709551616)=m0 at*
 rw [r1,r2,r3]
 congr 1
 by_cases h3:o3=0
 · by_cases h2:m2=0
   · by_cases h1:m1=0
     · by_cases h0:m0=0
       · simp only [h3,h2,h1,h0,if_true]
       · simp only [h3,h2,h1,h0,if_true,if_false]
     · simp only [h3,h2,h1,if_true,if_false]
   · simp only [h3,h2,if_true,if_false]
 · simp only [h3,if_true,if_false]
theorem zug (m:Nat):IntKind.wrap .u64 (m:Int)=((m%18446744073709551616:Nat):Int):=by
 have e:(2:Int)^(IntKind.u64.bits)=18446744073709551616:=by decide
 unfold IntKind.wrap
 simp only [e,show IntKind.u64.signed=false from rfl,Bool.false_and]
 simp only [Bool.false_eq_true,if_false]
 omega
theorem zwh (p q:Nat):(p:Int).fdiv (q:Int)=((p/q:Nat):Int):=by
 rw [Int.fdiv_eq_ediv_of_nonneg _ (by omega)]
 exact(Int.natCast_ediv p q).symm
theorem z62 (p:Nat):(p:Int).fdiv (2^(min (32:Int).toNat 64))=((p/4294967296:Nat):Int):=zwh p 4294967296
theorem zabp (p:Nat) (h:p<18446744073709551616):zg .u64 (p:Int) 4294967295=((p%4294967296:Nat):Int):=by
 rw [show(4294967295:Int)=((4294967295:Nat):Int)from rfl,andU p 4294967295 h (by decide)]
 rw [show(4294967295:Nat)=2^32-1 from rfl,Nat.and_two_pow_sub_one_eq_mod]
theorem z4z (p q:Nat) (hp:p<18446744073709551616) (hq:q<18446744073709551616):zd9 (p:Int) (q:Int)=some (((p*q/18446744073709551616:Nat):Int),((p*q%18446744073709551616:Nat):Int)):=by
 unfold zd9
 simp only [z62,zabp p hp,zabp q hq,←Int.natCast_mul,zug,←Int.natCast_add,z62]
 rw [zabp _ (Nat.mod_lt _ (by decide))]
 simp only [z62,←Int.natCast_mul,zug,←Int.natCast_add]
 have e1:=Nat.div_add_mod p 4294967296
 have e2:=Nat.div_add_mod q 4294967296
 have b1:p/4294967296≤4294967295:=by omega
 have b2:q/4294967296≤4294967295:=by omega
 have b3:p%4294967296≤4294967295:=by omega
 have b4:q%4294967296≤4294967295:=by omega
 have m:p*q=18446744073709551616*((p/4294967296)*(q/4294967296))+4294967296*((p/4294967296)*(q%4294967296))+(4294967296*((p%4294967296)*(q/4294967296))+(p%4294967296)*(q%4294967296)):=by
  conv=>lhs;rw [←e1,←e2]
  rw [Nat.add_mul,Nat.mul_add,Nat.mul_add,Nat.mul_mul_mul_comm,Nat.mul_assoc 4294967296 (p/4294967296) (q%4294967296),Nat.mul_left_comm (p%4294967296) 4294967296 (q/4294967296)]
 have c1:=Nat.mul_le_mul b1 b2
 have c2:=Nat.mul_le_mul b1 b4
 have c3:=Nat.mul_le_mul b3 b2
 have c4:=Nat.mul_le_mul b3 b4
 rw [m]
 clear m e1 e2 b1 b2 b3 b4
 generalize (p/4294967296)*(q/4294967296)=A at*
 generalize (p/4294967296)*(q%4294967296)=B at*
 generalize (p%4294967296)*(q/4294967296)=C at*
 generalize (p%4294967296)*(q%4294967296)=D at*
 simp only [Option.some.injEq,Prod.mk.injEq,Int.natCast_inj]
 refine⟨?_,trivial⟩
 omega
theorem zaip (N:Nat) (n c:Int) (a w o:zJ):za7.r0 N (n,c,0,a,w,o)=(zd9 a.e0 n).bind fun r=>some (.again (n,(IntKind.wrap .u64 (r.1+(((r.2.toNat+c.toNat+0)/2^64:Nat):Int))),1,a,w,⟨((r.2.toNat+c.toNat+0)%2^64:Nat),o.e1,o.e2,o.e3⟩)):=by kernel_rfl
theorem zaio (N:Nat) (n c:Int) (a w o:zJ):za7.r0 N (n,c,1,a,w,o)=(zd9 a.e1 n).bind fun r=>some (.again (n,(IntKind.wrap .u64 (r.1+(((r.2.toNat+c.toNat+0)/2^64:Nat):Int))),2,a,w,⟨o.e0,((r.2.toNat+c.toNat+0)%2^64:Nat),o.e2,o.e3⟩)):=by kernel_rfl
theorem zain (N:Nat) (n c:Int) (a w o:zJ):za7.r0 N (n,c,2,a,w,o)=(zd9 a.e2 n).bind fun r=>some (.again (n,(IntKind.wrap .u64 (r.1+(((r.2.toNat+c.toNat+0)/2^64:Nat):Int))),3,a,w,⟨o.e0,o.e1,((r.2.toNat+c.toNat+0)%2^64:Nat),o.e3⟩)):=by kernel_rfl
theorem zaim (N:Nat) (n c:Int) (a w o:zJ):za7.r0 N (n,c,3,a,w,o)=(zd9 a.e3 n).bind fun r=>some (.again (n,(IntKind.wrap .u64 (r.1+(((r.2.toNat+c.toNat+0)/2^64:Nat):Int))),4,a,w,⟨o.e0,o.e1,o.e2,((r.2.toNat+c.toNat+0)%2^64:Nat)⟩)):=by kernel_rfl
theorem zail (N:Nat) (n c:Int) (a w o:zJ):za7.r0 N (n,c,4,a,w,o)=some (.leave (n,c,4,a,w,o)):=by kernel_rfl
theorem z95 (x c n:Nat) (hn:n<18446744073709551616) (hc:c≤n):IntKind.wrap .u64 ((((x%18446744073709551616)*n/18446744073709551616:Nat):Int)+((((x%18446744073709551616)*n%18446744073709551616+c+0)/2^64:Nat):Int))=((((x%18446744073709551616)*n+c)/18446744073709551616:Nat):Int)∧((x%18446744073709551616)*n%18446744073709551616+c+0)%2^64=(x*n+c)%18446744073709551616∧((x%18446744073709551616)*n+c)/18446744073709551616≤n∧x/18446744073709551616*n+((x%18446744073709551616)*n+c)/18446744073709551616=(x*n+c)/18446744073709551616:=by
 have hp:(x%18446744073709551616)*n≤18446744073709551615*n:=Nat.mul_le_mul_right n (by omega)
 have e:x*n=(x%18446744073709551616)*n+18446744073709551616*(x/18446744073709551616*n):=by
  have:=Nat.mod_add_div x 18446744073709551616
  conv=>lhs;rw [←this]
  rw [Nat.add_mul,Nat.mul_assoc]
 rw [e]
 generalize (x%18446744073709551616)*n=p at*
 generalize x/18446744073709551616*n=q at*
 refine⟨?_,by omega,by omega,by omega⟩
 rw [←Int.natCast_add,zug]
 omega
theorem z6l (N:Nat) (hN:10<N) (a n:Nat) (hn:n<18446744073709551616):za7 N (wn a) (n:Int)=some (wn (a*n)):=by
 obtain⟨k,rfl⟩:∃k,N=k+5:=⟨N-5,by omega⟩
 have hB:∀x:Nat,x%18446744073709551616<18446744073709551616:=fun x=>Nat.mod_lt _ (by decide)
 obtain⟨w1,w2,w3,w4⟩:=z95 a 0 n hn (Nat.zero_le _)
 rw [Nat.add_zero (a*n)]at w2 w4
 obtain⟨x1,x2,x3,x4⟩:=z95 (a/18446744073709551616) _ n hn w3
 rw [w4]at x2 x4
 obtain⟨y1,y2,y3,y4⟩:=z95 (a/18446744073709551616/18446744073709551616) _ n hn x3
 rw [x4]at y2 y4
 obtain⟨z1,z2,z3,z4⟩:=z95 (a/18446744073709551616/18446744073709551616/18446744073709551616) _ n hn y3
 rw [y4]at z2
 unfold za7
 simp only [zi,zaip]
 rw [show(wn a).e0=((a%18446744073709551616:Nat):Int)from rfl,z4z _ _ (hB _) hn]
 simp only [obs,itn,zaio]
 rw [show(wn a).e1=((a/18446744073709551616%18446744073709551616:Nat):Int)from rfl,z4z _ _ (hB _) hn]
 simp only [obs,itn,zain]
 rw [show(wn a).e2=((a/18446744073709551616/18446744073709551616%18446744073709551616:Nat):Int)from rfl,z4z _ _ (hB _) hn]
 simp only [obs,itn,zaim]
 rw [show(wn a).e3=((a/18446744073709551616/18446744073709551616/18446744073709551616%18446744073709551616:Nat):Int)from rfl,z4z _ _ (hB _) hn]
 simp only [obs,itn,zail]
 rw [show Int.toNat 0=0 from rfl,w1,itn,x1,itn,y1,itn,w2,x2,y2,z2]
 rfl
theorem zv2 (N:Nat) (hN:100<N) (a k:Nat) (hk:k<100):zk N (wn a) (k:Int)=some (wn (a*10^k)):=by
 unfold zk
 have:=zdb (f:=zk.r0 N) (fun i=>((k:Int),(i:Int),wn (a*10^i),(⟨0,0,0,0⟩:zJ))) k
  (fun i hi=>by
   simp only [zk.r0,zk.b0,dct (show(i:Int)<(k:Int)by omega),ctr];rw [show(10:Int)=((10:Nat):Int)from rfl,z6l N (by omega) _ 10 (by decide),w6e];simp only [obs,Nat.mul_assoc,←Nat.pow_succ,Int.natCast_add,Int.natCast_one])
  (by simp only [zk.r0,zk.b0,dcf (show ¬(k:Int)<(k:Int)by omega),cfa]) (N:=N) (by omega)
 simp only [Nat.pow_zero,Nat.mul_one,nc0]at this
 rw [this]
 rfl
theorem z80 (a j r:Nat) (hr:r<64):(a/2^(64*j)%2^64/2^r)&&&1=a/2^(64*j+r)%2:=by
 rw [Nat.and_one_is_mod]
 have h:(a/2^(64*j)%2^64/2^r).testBit 0=(a/2^(64*j)%2^64).testBit (r+0):=by rw [Nat.testBit_div_two_pow,Nat.add_comm]
 have h1:Nat.testBit (a/2^(64*j)%2^64) (r+0)=Nat.testBit (a/2^(64*j+r)) 0:=by
  rw [Nat.testBit_mod_two_pow,Nat.testBit_div_two_pow,Nat.testBit_div_two_pow];simp [hr,Nat.add_comm,Nat.add_left_comm]
 rw [Nat.testBit_zero]at h
 rw [h1,Nat.testBit_zero]at h
 have:=Nat.mod_two_eq_zero_or_one (a/2^(64*j)%2^64/2^r)
 have:=Nat.mod_two_eq_zero_or_one (a/2^(64*j+r))
 simp only [decide_eq_decide]at h
 omega
theorem zaf8 (Q i j:Nat) (h:Q%2^(i+1)=0):(Q+2^i)/2^(64*j)%2^64=if i/64=j then(Q/2^(64*j)%2^64)|||2^(i%64)else Q/2^(64*j)%2^64:=by
 have e:Q+2^i=Q|||2^i:=by
  have:=Nat.two_pow_add_eq_or_of_lt (i:=i+1) (b:=2^i) (Nat.pow_lt_pow_right (by decide) (by omega)) (Q/2^(i+1));have e2:2^(i+1)*(Q/2^(i+1))=Q:=by
   have:=Nat.div_add_mod Q (2^(i+1));omega
  rw [e2]at this;exact this
 rw [e]
 refine Nat.eq_of_testBit_eq fun k=> ?_
 split
 · rename_i hj;simp only [Nat.testBit_mod_two_pow,Nat.testBit_div_two_pow,Nat.testBit_or,Nat.testBit_two_pow]
   by_cases hk:k<64
   · simp only [hk,decide_true,Bool.true_and]
     congr 1
     simp only [decide_eq_decide];omega
   · simp only [hk,decide_false,Bool.false_and,Bool.false_or];rw [dcf (by omega)]
 · rename_i hj;simp only [Nat.testBit_mod_two_pow,Nat.testBit_div_two_pow,Nat.testBit_or,Nat.testBit_two_pow]
   by_cases hk:k<64
   · simp only [hk,decide_true,Bool.true_and];rw [dcf (by omega),Bool.or_false]
   · simp only [hk,decide_false,Bool.false_and]
def z72 (a:zJ) (s:Int):Int:=zg .u64 (((zbk [a.e0,a.e1,a.e2,a.e3] ((w6 (s.tdiv 64)).toNat)):Int).fdiv (2^(min (s.tmod 64).toNat 64))) 1
def dsh (x:zJ) (t:Int):zJ:=⟨orI .u64 x.e0 t,x.e1,x.e2,x.e3⟩
def dset (q:zJ) (j:Nat) (v:Int):zJ:=⟨if j=0 then v else q.e0,if j=1 then v else q.e1,if j=2 then v else q.e2,if j=3 then v else q.e3⟩
theorem z4h (N:Nat) (s:Int) (a b q r:zJ):zbb.r0 N (s,a,b,q,r)=
 cond (decide (s≥0)) ((zaj N r r).bind fun x=>if 0≤w6 (s.tdiv 64)then(if w6 (s.tdiv 64)<4 then(if(s.tmod 64)<0 then none else(zo N (dsh x (z72 a s)) b).bind fun c=>
  cond (decide (c≥0)) ((zag N (dsh x (z72 a s)) b).bind fun y=>if 0≤w6 (s.tdiv 64)then(if w6 (s.tdiv 64)<4 then(if(s.tmod 64)<0 then none else if 0≤w6 (s.tdiv 64)then(if w6 (s.tdiv 64)<4 then
   (some (.again (w6 (s-1),a,b,dset q (w6 (s.tdiv 64)).toNat (orI .u64 (zbk [q.e0,q.e1,q.e2,q.e3] ((w6 (s.tdiv 64)).toNat)) (IntKind.wrap .u64 (1*2^(min (s.tmod 64).toNat 64)))),y)))else none)else none)else none)else none)
   (some (.again (w6 (s-1),a,b,q,dsh x (z72 a s)))))else none)else none)
  (some (.leave (s,a,b,q,r))):=by kernel_rfl
theorem div2 (a:Nat):a/18446744073709551616/18446744073709551616=a/340282366920938463463374607431768211456:=Nat.div_div_eq_div_mul _ _ _
theorem div3 (a:Nat):a/18446744073709551616/18446744073709551616/18446744073709551616=a/6277101735386680763835789423207666416102355444464034512896:=by rw [div2];exact Nat.div_div_eq_div_mul _ _ _
theorem limb (a j:Nat) (hj:j<4):zbk [(wn a).e0,(wn a).e1,(wn a).e2,(wn a).e3] j=((a/2^(64*j)%2^64:Nat):Int):=by
 match j,hj with
 | 0,_=>show((a%18446744073709551616:Nat):Int)=((a/1%18446744073709551616:Nat):Int);rw [Nat.div_one]
 | 1,_=>rfl
 | 2,_=>show((a/18446744073709551616/18446744073709551616%18446744073709551616:Nat):Int)=((a/340282366920938463463374607431768211456%18446744073709551616:Nat):Int);rw [div2]
 | 3,_=>show((a/18446744073709551616/18446744073709551616/18446744073709551616%18446744073709551616:Nat):Int)=((a/6277101735386680763835789423207666416102355444464034512896%18446744073709551616:Nat):Int);rw [div3]
theorem zahs (a i:Nat) (hi:i<256):z72 (wn a) (i:Int)=((a/2^i%2:Nat):Int):=by
 unfold z72
 have e1:w6 ((i:Int).tdiv 64)=((i/64:Nat):Int):=by
  rw [tde,w6e];omega
 have e2:((i:Int).tmod 64)=((i%64:Nat):Int):=by
  rw [tme];omega
 rw [e1,e2,itn,itn,limb a _ (by omega),Nat.min_eq_left (by omega)]
 rw [show(2:Int)^(i%64)=((2^(i%64):Nat):Int)by rw [Int.natCast_pow];rfl,zwh]
 have hb:a/2^(64*(i/64))%2^64/2^(i%64)<2^64:=Nat.lt_of_le_of_lt (Nat.div_le_self _ _) (Nat.mod_lt _ (by decide))
 rw [show(1:Int)=((1:Nat):Int)from rfl,andU _ 1 hb (by decide),z80 a _ _ (by omega),show 64*(i/64)+i%64=i by omega]
theorem zajx (x t:Nat) (ht:t<2):dsh (wn (x+x)) (t:Int)=wn (2*x+t):=by
 have h0:(x+x)%18446744073709551616|||t=(2*x+t)%18446744073709551616:=by
  have:=Nat.two_pow_add_eq_or_of_lt (i:=1) (b:=t) (by omega) ((x+x)%18446744073709551616/2);have e:2^1*((x+x)%18446744073709551616/2)=(x+x)%18446744073709551616:=by omega
  rw [e]at this;rw [←this];omega
 unfold dsh
 simp only [wn]
 have h1:(x+x)/18446744073709551616=(2*x+t)/18446744073709551616:=by omega
 rw [orU _ t (Nat.mod_lt _ (by decide)) (by omega),h0,h1]
theorem zahn (Q i:Nat) (hi:i<256) (h:Q%2^(i+1)=0):
 dset (wn Q) (w6 ((i:Int).tdiv 64)).toNat (orI .u64 (zbk [(wn Q).e0,(wn Q).e1,(wn Q).e2,(wn Q).e3] ((w6 ((i:Int).tdiv 64)).toNat)) (IntKind.wrap .u64 (1*2^(min ((i:Int).tmod 64).toNat 64))))=wn (Q+2^i):=by
 have e1:w6 ((i:Int).tdiv 64)=((i/64:Nat):Int):=by
  rw [tde,w6e];omega
 have e2:((i:Int).tmod 64)=((i%64:Nat):Int):=by
  rw [tme];omega
 have e3:IntKind.wrap .u64 (1*2^(i%64))=((2^(i%64):Nat):Int):=by
  rw [Int.one_mul,show(2:Int)^(i%64)=((2^(i%64):Nat):Int)by rw [Int.natCast_pow];rfl,zug,mel];exact Nat.pow_lt_pow_right (a:=2) (n:=64) (m:=i%64) (by decide) (by omega)
 rw [e1,e2,itn,itn,limb Q _ (by omega),Nat.min_eq_left (by omega),e3]
 rw [orU (Q/2^(64*(i/64))%2^64) (2^(i%64)) (Nat.mod_lt _ (by decide)) (Nat.pow_lt_pow_right (a:=2) (n:=64) (m:=i%64) (by decide) (by omega))]
 have w:=fun j=>zaf8 Q i j h
 have w0:=w 0
 rw [show 2^(64*0)=1 from rfl,Nat.div_one,Nat.div_one]at w0
 have w1:=w 1
 have w2:=w 2
 have w3:=w 3
 have k1:(2:Nat)^(64*1)=18446744073709551616:=by decide
 have k2:(2:Nat)^(64*2)=340282366920938463463374607431768211456:=by decide
 have k3:(2:Nat)^(64*3)=6277101735386680763835789423207666416102355444464034512896:=by decide
 have k0:(2:Nat)^64=18446744073709551616:=by decide
 simp only [k1,k0]at w1
 simp only [k2,k0]at w2
 simp only [k3,k0]at w3
 simp only [k0]at w0
 unfold dset
 refine zabu ?_ ?_ ?_ ?_
 · simp only [wn];rw [w0]
   by_cases hj:i/64=0
   · rw [ifp hj,ifp hj,hj,show 64*0=0 from rfl,Nat.pow_zero,Nat.div_one,k0]
   · rw [ifn hj,ifn hj]
 · simp only [wn];rw [w1]
   by_cases hj:i/64=1
   · rw [ifp hj,ifp hj,hj]
   · rw [ifn hj,ifn hj]
 · simp only [wn,div2];rw [w2]
   by_cases hj:i/64=2
   · rw [ifp hj,ifp hj,hj]
   · rw [ifn hj,ifn hj]
 · simp only [wn,div3];rw [w3]
   by_cases hj:i/64=3
   · rw [ifp hj,ifp hj,hj]
   · rw [ifn hj,ifn hj]
theorem z24 (a b:Nat):decide (zlw a b≥0)=decide (b≤a):=by
 unfold zlw
 by_cases h:a<b
 · rw [ifp h,dcf (show ¬b≤a by omega)];rfl
 · rw [ifn h,dct (show b≤a by omega)]
   by_cases h2:b<a
   · rw [ifp h2];rfl
   · rw [ifn h2];rfl
theorem zadf (N:Nat) (hN:10<N) (i:Nat) (hi:i<256) (a d:Nat) (hd:0<d) (hd2:d≤57896044618658097711785492504343953926634992332820282019728792003956564819968):
 zbb.r0 N ((i:Int),wn a,wn d,wn (a/2^(i+1)/d*2^(i+1)),wn (a/2^(i+1)%d))=some (.again ((i:Int)-1,wn a,wn d,wn (a/2^i/d*2^i),wn (a/2^i%d))):=by
 have e1:w6 ((i:Int).tdiv 64)=((i/64:Nat):Int):=by
  rw [tde,w6e];omega
 have e2:((i:Int).tmod 64)=((i%64:Nat):Int):=by
  rw [tme];omega
 have c1:0≤w6 ((i:Int).tdiv 64):=by rw [e1];omega
 have c2:w6 ((i:Int).tdiv 64)<4:=by rw [e1];omega
 have c3:¬(i:Int).tmod 64<0:=by rw [e2];omega
 have hp:a/2^i=2*(a/2^(i+1))+a/2^i%2:=by
  rw [Nat.pow_succ,←Nat.div_div_eq_div_mul];omega
 have hbit:a/2^i%2<2:=Nat.mod_lt _ (by decide)
 have hdm:=Nat.div_add_mod (a/2^(i+1)) d
 have hr:=Nat.mod_lt (a/2^(i+1)) hd
 rw [z4h,dct (show(i:Int)≥0 by omega),ctr,zy5 N hN,obs,ifp c1,ifp c2,ifn c3,zahs a i hi,zajx _ _ hbit]
 rw [znx N hN (by unfold zll;omega) (by unfold zll;omega),obs,z24]
 rw [w6e (n:=(i:Int)-1)]
 generalize hq:a/2^(i+1)/d=q at*
 generalize hs:a/2^(i+1)%d=r at*
 generalize hb:a/2^i%2=t at*
 have hp2:a/2^i=d*(2*q)+(2*r+t):=by
  rw [hp,←hdm,Nat.mul_left_comm];omega
 by_cases h:d≤2*r+t
 · rw [dct h,ctr,z0o N hN h,obs,ifp c1,ifp c2,ifn c3,ifp c1,ifp c2];rw [zahn _ i hi (Nat.mul_mod_left _ _)];have hp3:a/2^i=d*(2*q+1)+(2*r+t-d):=by rw [hp2,Nat.mul_add d];omega
   rw [hp3,Nat.mul_add_div hd,Nat.mul_add_mod,Nat.div_eq_of_lt (show 2*r+t-d<d by omega),mel (show 2*r+t-d<d by omega)];have:q*2^(i+1)+2^i=(2*q+1+0)*2^i:=by
    rw [Nat.pow_succ,Nat.add_zero,Nat.add_mul,Nat.one_mul,Nat.mul_comm (2^i) 2,←Nat.mul_assoc,Nat.mul_comm q 2]
   rw [this]
 · rw [dcf h,cfa];rw [hp2,Nat.mul_add_div hd,Nat.mul_add_mod,Nat.div_eq_of_lt (show 2*r+t<d by omega),mel (show 2*r+t<d by omega)];have:q*2^(i+1)=(2*q+0)*2^i:=by
    rw [Nat.pow_succ,Nat.add_zero,Nat.mul_comm (2^i) 2,←Nat.mul_assoc,Nat.mul_comm q 2]
   rw [this]
theorem z13 (N:Nat) (hN:300<N) (a d:Nat) (ha:a<zll) (hd:0<d) (hd2:d≤57896044618658097711785492504343953926634992332820282019728792003956564819968):
 zbb N (wn a) (wn d)=some (wn (a/d),wn (a%d)):=by
 unfold zbb
 have:=zdb (f:=zbb.r0 N) (fun k=>((255:Int)-(k:Int),wn a,wn d,wn (a/2^(256-k)/d*2^(256-k)),wn (a/2^(256-k)%d))) 256
  (fun k hk=>by
   have e:=zadf N (by omega) (255-k) (by omega) a d hd hd2;rw [show 255-k+1=256-k by omega,show((255-k:Nat):Int)=(255:Int)-(k:Int)by omega]at e;rw [e,show 256-(k+1)=255-k by omega,show(255:Int)-(k:Int)-1=(255:Int)-((k+1:Nat):Int)by omega])
  (by rw [z4h];rfl) (N:=N) (by omega)
 have z:a/2^(256-0)=0:=Nat.div_eq_of_lt (by unfold zll at ha;exact Nat.lt_of_lt_of_le ha (by decide))
 simp only [z,Nat.zero_div,Nat.zero_mul,Nat.zero_mod]at this
 have z2:a/2^(256-256)=a:=Nat.div_one a
 simp only [z2]at this
 rw [show((255:Int)-((0:Nat):Int))=255 from rfl,show wn 0=(⟨0,0,0,0⟩:zJ)from rfl]at this
 rw [this,obs,show a/d*2^(256-256)=a/d from Nat.mul_one _]
def zeg (x:Number):Prop:=(-999999999999999≤x.N∧x.N≤999999999999999)∧0≤x.Scale∧x.Scale≤15
theorem zqb {x:Number}:zrf x=0↔zeg x:=by
 unfold zrf zeg
 cases h:(inB x.N (-999999999999999) 999999999999999&&inB x.Scale 0 15)with
 | true=>
  rw [Bool.and_eq_true,zay,zay]at h;simp [h]
 | false=>
  simp only [cfa];constructor
  · intro h2;cases h2
  · intro h2;rw [show(inB x.N (-999999999999999) 999999999999999)=true from zay.2 h2.1,show inB x.Scale 0 15=true from zay.2 h2.2]at h;cases h
def zi5 (t:DataType):Prop:=zce t=0∧1≤t.Kind∧t.Kind≤3
theorem zhz {t:DataType} (h:zi5 t):(1≤t.Length∧t.Length≤15)∧0≤t.Scale∧t.Scale≤t.Length:=by
 obtain⟨h0,h1,h2⟩:=h
 unfold zce at h0
 rw [ifn]at h0
 by_cases hk:t.Kind=3
 · rw [ifn,ifp hk]at h0;split at h0
   · split at h0
     · rename_i h3 h4;have:=zay.1 h4;omega
     · cases h0
   · cases h0
 · rw [ifp]at h0;split at h0
   · split at h0
     · rename_i h3 h4;have:=zay.1 h4;have:=zay.1 h3;omega
     · cases h0
   · cases h0
theorem zhy {k m:Nat} (h:k≤m):10^k≤10^m:=Nat.pow_le_pow_right (by decide) h
theorem zi3 (k:Nat):0<10^k:=Nat.pow_pos (by decide)
theorem zq8 (N:Nat) (hN:300<N) {x:Number} (hx:zeg x) (k:Nat) (hk:k<100):zdt N x (k:Int)=some (wn (x.N.natAbs*10^k)):=by
 obtain⟨⟨h1,h2⟩,_⟩:=hx
 unfold zdt
 have e:(if w6 (0-x.N)>x.N then w6 (0-x.N)else x.N)=((x.N.natAbs:Nat):Int):=by
  rw [w6e];split<;>omega
 rw [e,zug,mel (by omega),z3y (by omega),obs,zv2 N (by omega) _ k hk]
 rfl
theorem z14 (N:Nat) (hN:300<N) {x:Number} (hx:zeg x):zdt N x 0=some (wn x.N.natAbs):=by
 have:=zq8 N hN hx 0 (by decide)
 rw [Nat.pow_zero,Nat.mul_one]at this
 exact this
theorem zsi:zb7 1=some (wn 1):=z3y (n:=1) (by decide)
theorem zx3 (N:Nat) (hN:300<N) {k:Int} (h0:0≤k) (h1:k<100):zk N (wn 1) k=some (wn (10^k.toNat)):=by
 have:=zv2 N (by omega) 1 k.toNat (by omega)
 rw [Nat.one_mul,Int.toNat_of_nonneg h0]at this
 exact this
def zme (b:Bool) (p q:Nat) (t:DataType) (half:Bool):Value × Int:=
 if 10^t.Length.toNat≤p*10^t.Scale.toNat/q+cond (half&&decide (q≤p*10^t.Scale.toNat%q+p*10^t.Scale.toNat%q)) 1 0 then(⟨0,⟨#[]⟩⟩,19)
 else(⟨cond b (-((p*10^t.Scale.toNat/q+cond (half&&decide (q≤p*10^t.Scale.toNat%q+p*10^t.Scale.toNat%q)) 1 0:Nat):Int)) ((p*10^t.Scale.toNat/q+cond (half&&decide (q≤p*10^t.Scale.toNat%q+p*10^t.Scale.toNat%q)) 1 0:Nat):Int),⟨#[]⟩⟩,0)
theorem eW (a:zJ):(⟨a.e0,a.e1,a.e2,a.e3⟩:zJ)=a:=rfl
theorem z9b (N:Nat) (hN:300<N) (b:Bool) (Q:Nat) (hQ:Q<zll) {t:DataType} (ht:zi5 t):
 ((zb7 1).bind fun r11=>(zk N r11 t.Length).bind fun r12=>(zo N (wn Q) r12).bind fun r13=>cond (decide (r13≥0)) (some ((⟨0,(⟨#[]⟩:ByteArray)⟩:Value),(19:Int)))
 (cond b (some ((⟨(w6 (0-(w6 (zbk [(wn Q).e0,(wn Q).e1,(wn Q).e2,(wn Q).e3] 0)))),(⟨#[]⟩:ByteArray)⟩:Value),(0:Int)))
 (some ((⟨(w6 (zbk [(wn Q).e0,(wn Q).e1,(wn Q).e2,(wn Q).e3] 0)),(⟨#[]⟩:ByteArray)⟩:Value),(0:Int)))))=
 some (if 10^t.Length.toNat≤Q then(⟨0,⟨#[]⟩⟩,19)else(⟨cond b (-(Q:Int)) (Q:Int),⟨#[]⟩⟩,0)):=by
 obtain⟨⟨l1,l2⟩,l3,l4⟩:=zhz ht
 have hp:10^t.Length.toNat≤10^15:=zhy (by omega)
 rw [zsi,obs,zx3 N hN (by omega) (by omega),obs,znx N (by omega) hQ (by unfold zll;omega),obs,z24]
 by_cases h:10^t.Length.toNat≤Q
 · rw [dct h,ifp h];rfl
 · rw [dcf h,ifn h,cfa];have e:zbk [(wn Q).e0,(wn Q).e1,(wn Q).e2,(wn Q).e3] 0=(Q:Int):=by
    show((Q%18446744073709551616:Nat):Int)=Q;rw [mel (by omega)]
   rw [e,w6e (n:=(Q:Int)),w6e];cases b
   · rfl
   · simp only [ctr,Int.zero_sub]
theorem zuo (N:Nat) (hN:300<N) (b:Bool) (p q:Nat) (hp:p≤10^46) (hq:0<q) (hq2:q≤10^46) {t:DataType} (ht:zi5 t) (half:Bool):zeo N ⟨b,wn p,wn q⟩ t half=some (zme b p q t half):=by
 obtain⟨⟨l1,l2⟩,l3,l4⟩:=zhz ht
 have hs:p*10^t.Scale.toNat≤10^46*10^15:=Nat.mul_le_mul hp (zhy (by omega))
 have hd:p*10^t.Scale.toNat/q≤10^46*10^15:=Nat.le_trans (Nat.div_le_self _ _) hs
 have hm:p*10^t.Scale.toNat%q<q:=Nat.mod_lt _ hq
 unfold zeo zme
 try simp only [eW]
 have e1:=zv2 N (by omega) p t.Scale.toNat (by omega)
 rw [Int.toNat_of_nonneg l3]at e1
 rw [e1,obs,z13 N hN _ q (by unfold zll;omega) hq (by omega)]
 simp only [obs]
 rw [zy5 N (by omega),obs,znx N (by omega) (by unfold zll;omega) (by unfold zll;omega)]
 simp only [obs,z24]
 have k:(cond half (some (decide (q≤p*10^t.Scale.toNat%q+p*10^t.Scale.toNat%q))) (some false))=some (half&&decide (q≤p*10^t.Scale.toNat%q+p*10^t.Scale.toNat%q)):=by cases half<;>rfl
 rw [k,obs]
 cases hc:(half&&decide (q≤p*10^t.Scale.toNat%q+p*10^t.Scale.toNat%q))with
 | true=>
  simp only [ctr];rw [zsi,obs,zy5 N (by omega),obs,←zsi];exact z9b N hN b _ (by unfold zll;omega) ht
 | false=>
  simp only [cfa,Nat.add_zero];exact z9b N hN b _ (by unfold zll;omega) ht
theorem zacn (b b':Bool) (p q:Nat) (hq:0<q) (t:DataType) (half:Bool) (h:p≠0→b=b'):zme b p q t half=zme b' p q t half:=by
 by_cases hp:p=0
 · subst hp;unfold zme;simp only [Nat.zero_mul,Nat.zero_div,Nat.zero_mod,Nat.zero_add,dcf (show ¬q≤0 by omega),Bool.and_false,cfa];cases b<;>cases b'<;>rfl
 · rw [h hp]
def z23 (p:Int) (q:Nat) (t:DataType) (half:Bool):Value × Int:=zme (decide (p<0)) p.natAbs q t half
theorem zaco (b:Bool) (p q:Nat) (hq:0<q) (t:DataType) (half:Bool):zme b p q t half=z23 (cond b (-(p:Int)) p) q t half:=by
 unfold z23
 have:(cond b (-(p:Int)) (p:Int)).natAbs=p:=by cases b<;>simp
 rw [this]
 refine zacn _ _ _ _ hq _ _ fun h=> ?_
 cases b
 · symm;simp
 · symm;simp;omega
theorem zacv {t:DataType} (ht:zi5 t):zft t=some true:=by
 obtain⟨_,h1,h2⟩:=ht
 unfold zft
 rcases(by omega:t.Kind=1∨t.Kind=2∨t.Kind=3)with h|h|h<;>rw [h]<;>rfl
def ziw (x:Number) (t:DataType) (half:Bool):Value × Int:=z23 x.N (10^x.Scale.toNat) t half
theorem z9c (N:Nat) (hN:300<N) {x:Number} (hx:zeg x) {t:DataType} (ht:zi5 t) (half:Bool):zgv N x t half=some (ziw x t half):=by
 have f3:∀a b c:Int,zab N [a,b,c]=some (zcu [a,b,c]):=fun a b c=>zqc N _ (by simp;omega) (by simp)
 have hx':=hx
 obtain⟨⟨h1,h2⟩,h3,h4⟩:=hx'
 have hp:10^x.Scale.toNat≤10^15:=zhy (by omega)
 unfold zgv zpn
 try simp only [eN,eD,eW]
 rw [znf,zqb.2 hx]
 simp only [obs]
 rw [znw N (by omega),ht.1]
 simp only [obs]
 rw [zacv ht]
 simp only [obs,zqd,f3]
 rw [z14 N hN hx,zsi]
 simp only [obs]
 rw [zx3 N hN h3 (by omega)]
 simp only [obs]
 rw [show zcu [0,0,cond (!true) 17 0]=0 from rfl]
 simp only [bsf,cfa]
 rw [zuo N hN _ _ _ (by omega) (zi3 _) (by omega) ht]
 simp only [obs]
 rfl
def zdc (x:Number) (s:Int):Int:=x.N*10^(s-x.Scale).toNat
def zaw (a b:Number):Int:=if b.Scale>a.Scale then b.Scale else a.Scale
theorem zvk (x:Number) (s:Int):(zdc x s).natAbs=x.N.natAbs*10^(s-x.Scale).toNat:=by
 unfold zdc
 rw [Int.natAbs_mul,Int.natAbs_pow]
 rfl
theorem z1w (k:Nat):(0:Int)<10^k:=Int.pow_pos (by decide)
theorem zrr (x:Number) (s:Int):(zdc x s<0)↔x.N<0:=by
 unfold zdc
 have:=z1w (s-x.Scale).toNat
 constructor
 · intro h;refine cbc fun h2=> ?_;have:=Int.mul_nonneg (show 0≤x.N by omega) (Int.le_of_lt this);omega
 · intro h;exact Int.mul_neg_of_neg_of_pos h this
theorem z8n (x:Number) (s:Int):zdc x s=0↔x.N=0:=by
 unfold zdc
 have:=z1w (s-x.Scale).toNat
 constructor
 · intro h;rcases Int.mul_eq_zero.1 h with h|h
   · exact h
   · omega
 · intro h;rw [h,Int.zero_mul]
theorem zv3 (N:Nat) (hN:300<N) {a b:Number} (ha:zeg a) (hb:zeg b):ze8 N a b=some (wn (zdc a (zaw a b)).natAbs,wn (zdc b (zaw a b)).natAbs,zaw a b):=by
 have ha':=ha
 have hb':=hb
 obtain⟨_,a3,a4⟩:=ha'
 obtain⟨_,b3,b4⟩:=hb'
 unfold ze8
 have hs:(if b.Scale>a.Scale then b.Scale else a.Scale)=zaw a b:=rfl
 have h1:a.Scale≤zaw a b∧b.Scale≤zaw a b∧zaw a b≤15:=by unfold zaw;split<;>omega
 rw [hs,w6e,w6e]
 have e1:=zq8 N hN ha (zaw a b-a.Scale).toNat (by omega)
 have e2:=zq8 N hN hb (zaw a b-b.Scale).toNat (by omega)
 rw [Int.toNat_of_nonneg (by omega)]at e1 e2
 rw [e1,obs,e2,obs,zvk,zvk]
theorem zoz {x:Number} (hx:zeg x) {s:Int} (hs:s≤15):(zdc x s).natAbs≤10^30:=by
 obtain⟨⟨h1,h2⟩,h3,h4⟩:=hx
 rw [zvk]
 have:=Nat.mul_le_mul (show x.N.natAbs≤10^15 by omega) (zhy (k:=(s-x.Scale).toNat) (m:=15) (by omega))
 exact Nat.le_trans this (by decide)
theorem zvl {a b:Number} (ha:zeg a) (hb:zeg b):a.Scale≤zaw a b∧b.Scale≤zaw a b∧0≤zaw a b∧zaw a b≤15:=by
 obtain⟨_,a3,a4⟩:=ha
 obtain⟨_,b3,b4⟩:=hb
 unfold zaw;split<;>omega
def z6j (a b:Int):Int:=if a<b then-1 else if b<a then 1 else 0
theorem zzm (N:Nat) (hN:300<N) {a b:Number} (ha:zeg a) (hb:zeg b):zhl N a b=some (z6j (zdc a (zaw a b)) (zdc b (zaw a b)),0):=by
 have f2:∀a b:Int,zab N [a,b]=some (zcu [a,b]):=fun a b=>zqc N _ (by simp;omega) (by simp)
 obtain⟨s1,s2,s3,s4⟩:=zvl ha hb
 have la:=zoz ha s4
 have lb:=zoz hb s4
 have na:=zrr a (zaw a b)
 have nb:=zrr b (zaw a b)
 unfold zhl
 rw [znf,znf,zqb.2 ha,zqb.2 hb]
 simp only [obs,f2]
 rw [zv3 N hN ha hb]
 simp only [show zcu [0,0]=0 from rfl,bsf,cfa,obs]
 rw [znx N (by omega) (by unfold zll;omega) (by unfold zll;omega),znx N (by omega) (by unfold zll;omega) (by unfold zll;omega)]
 generalize zdc a (zaw a b)=A at*
 generalize zdc b (zaw a b)=B at*
 have k:∀x y,(cond (decide (a.N<0)) x y:Option (Int × Int))=if A<0 then x else y:=fun x y=>by
  by_cases h:A<0
  · rw [ifp h,dct (na.1 h),ctr]
  · rw [ifn h,dcf (fun h2=>h (na.2 h2)),cfa]
 have k2:∀x y,(cond (decide (b.N<0)) x y:Option (Int × Int))=if B<0 then x else y:=fun x y=>by
  by_cases h:B<0
  · rw [ifp h,dct (nb.1 h),ctr]
  · rw [ifn h,dcf (fun h2=>h (nb.2 h2)),cfa]
 rw [show(cond (decide (a.N<0)) (some (decide (b.N<0))) (some false))=some (decide (A<0∧B<0))by
  by_cases h:A<0
  · rw [dct (na.1 h),ctr]
    by_cases h2:B<0
    · rw [dct (nb.1 h2),dct ⟨h,h2⟩]
    · rw [dcf (fun h3=>h2 (nb.2 h3)),dcf (fun h3=>h2 h3.2)]
  · rw [dcf (fun h2=>h (na.2 h2)),cfa,dcf (fun h3=>h h3.1)]]
 simp only [obs,k,k2]
 unfold zlw z6j
 by_cases h1:A<0∧B<0
 · rw [dct h1];simp only [ctr,Option.some.injEq,Prod.mk.injEq,and_true]
   repeat' split
   all_goals first|rfl|omega
 · rw [dcf h1];simp only [cfa]
   repeat' split
   all_goals first|rfl|(exfalso;omega)
theorem zact (N:Nat) (hN:300<N) {a b:Number} (ha:zeg a) (hb:zeg b):∃s p,zlh N a b=some ⟨s,wn p,wn (10^(zaw a b).toNat)⟩∧p≤10^31∧cond s (-(p:Int)) p=zdc a (zaw a b)+zdc b (zaw a b):=by
 obtain⟨s1,s2,s3,s4⟩:=zvl ha hb
 have la:=zoz ha s4
 have lb:=zoz hb s4
 have na:=zrr a (zaw a b)
 have nb:=zrr b (zaw a b)
 unfold zlh
 rw [zv3 N hN ha hb]
 simp only [obs]
 rw [zy5 N (by omega),zsi]
 simp only [obs]
 rw [zx3 N hN s3 (by omega)]
 simp only [obs]
 obtain⟨r,hr1,hr2⟩:=zx4 N (by omega) (zdc a (zaw a b)).natAbs (zdc b (zaw a b)).natAbs
 rw [hr1]
 simp only [obs]
 rw [znx N (by omega) (by unfold zll;omega) (by unfold zll;omega)]
 simp only [obs]
 generalize zdc a (zaw a b)=A at*
 generalize zdc b (zaw a b)=B at*
 rw [show decide (a.N<0)=decide (A<0)by simp only [decide_eq_decide];exact na.symm,show decide (b.N<0)=decide (B<0)by simp only [decide_eq_decide];exact nb.symm]
 by_cases hA:A<0
 · by_cases hB:B<0
   · rw [dct hA,dct hB];refine⟨true,_,rfl,by omega,?_⟩;simp only [ctr];omega
   · rw [dct hA,dcf hB];unfold zlw
     by_cases h:A.natAbs<B.natAbs
     · rw [ifp h,z0o N (by omega) (Nat.le_of_lt h)];refine⟨false,_,rfl,by omega,?_⟩;simp only [cfa];omega
     · rw [ifn h,hr2 (by omega)];refine⟨true,A.natAbs-B.natAbs,?_,by omega,?_⟩
       · split<;>rfl
       · simp only [ctr];omega
 · by_cases hB:B<0
   · rw [dcf hA,dct hB];unfold zlw
     by_cases h:A.natAbs<B.natAbs
     · rw [ifp h,z0o N (by omega) (Nat.le_of_lt h)];refine⟨true,_,rfl,by omega,?_⟩;simp only [ctr];omega
     · rw [ifn h,hr2 (by omega)];refine⟨false,A.natAbs-B.natAbs,?_,by omega,?_⟩
       · split<;>rfl
       · simp only [cfa];omega
   · rw [dcf hA,dcf hB];refine⟨false,_,rfl,by omega,?_⟩;simp only [cfa];omega
def zf5 (op:Int) (a b:Number) (t:DataType) (half:Bool):Value × Int:=
 if(op=3∨op=4)∧b.N=0 then(⟨0,⟨#[]⟩⟩,20)
 else if op=0 then z23 (zdc a (zaw a b)+zdc b (zaw a b)) (10^(zaw a b).toNat) t half
 else if op=1 then z23 (zdc a (zaw a b)-zdc b (zaw a b)) (10^(zaw a b).toNat) t half
 else if op=2 then zme (decide (a.N<0) !=decide (b.N<0)) (a.N.natAbs*b.N.natAbs) (10^(a.Scale+b.Scale).toNat) t half
 else if op=3 then zme (decide (a.N<0) !=decide (b.N<0)) (a.N.natAbs*10^b.Scale.toNat) (b.N.natAbs*10^a.Scale.toNat) t half
 else zme (decide (a.N<0)) ((zdc a (zaw a b)).natAbs%(zdc b (zaw a b)).natAbs) (10^(zaw a b).toNat) t half
theorem z9d (N:Nat) (hN:300<N) {op:Int} (hop:0≤op∧op≤4) {a b:Number} (ha:zeg a) (hb:zeg b) {t:DataType} (ht:zi5 t) (half:Bool):zda N op a b t half=some (zf5 op a b t half):=by
 have f5:∀a b c d e:Int,zab N [a,b,c,d,e]=some (zcu [a,b,c,d,e]):=fun a b c d e=>zqc N _ (by simp;omega) (by simp)
 obtain⟨s1,s2,s3,s4⟩:=zvl ha hb
 have ha':=ha
 have hb':=hb
 obtain⟨⟨a1,a2⟩,a3,a4⟩:=ha'
 obtain⟨⟨b1,b2⟩,b3,b4⟩:=hb'
 have p15:∀k:Int,k≤15→10^k.toNat≤10^15:=fun k hk=>zhy (by omega)
 have q1:=p15 _ s4
 have q2:=p15 _ a4
 have q3:=p15 _ b4
 unfold zda zne zi4 zk7
 simp only [z4y,zqd,obs]
 rw [znf,znf,zqb.2 ha,zqb.2 hb,show inB op 0 4=true from zay.2 hop]
 simp only [obs]
 rw [znw N (by omega),ht.1]
 simp only [obs]
 rw [zacv ht]
 simp only [obs,f5,show zcu [cond (!true) 4 0,0,0,0,cond (!true) 17 0]=0 from rfl,bsf,cfa]
 have g:((cond (op==3) (some true) (some (op==4))).bind fun g1=>some g1)=some (decide (op=3∨op=4)):=by
  rw [zbx,zbx]
  by_cases h:op=3
  · rw [dct h,dct (Or.inl h)];rfl
  · rw [dcf h]
    by_cases h2:op=4
    · rw [dct h2,dct (Or.inr h2)];rfl
    · rw [dcf h2,dcf (by omega)];rfl
 rw [g]
 simp only [obs]
 rw [show(cond (decide (op=3∨op=4)) (some (b.N==0)) (some false))=some (decide ((op=3∨op=4)∧b.N=0))by
  rw [zbx]
  by_cases h:op=3∨op=4
  · rw [dct h,ctr];congr 1;simp [h]
  · rw [dcf h,cfa];congr 1;simp [h]]
 simp only [obs]
 unfold zf5
 by_cases hz:(op=3∨op=4)∧b.N=0
 · rw [dct hz,ifp hz];rfl
 · rw [dcf hz,ifn hz,cfa];unfold zlx
   by_cases o0:op=0
   · obtain⟨s,p,h1,h2,h3⟩:=zact N hN ha hb;rw [ifp o0,o0,h1];simp only [bst,ctr,obs];rw [zuo N hN _ _ _ (by omega) (zi3 _) (by omega) ht,←h3,zaco _ _ _ (zi3 _)];rfl
   · rw [ifn o0,zbx,dcf o0,cfa]
     by_cases o1:op=1
     · have hb2:zeg ⟨-b.N,b.Scale⟩:=⟨⟨by show-999999999999999≤-b.N;omega,by show-b.N≤999999999999999;omega⟩,b3,b4⟩;obtain⟨s,p,h1,h2,h3⟩:=zact N hN ha hb2;rw [ifp o1,zbx,dct o1,ctr,w6e,Int.zero_sub,h1];simp only [obs];have e1:zaw a ⟨-b.N,b.Scale⟩=zaw a b:=rfl;have e2:zdc ⟨-b.N,b.Scale⟩ (zaw a b)= -zdc b (zaw a b):=by unfold zdc;exact Int.neg_mul _ _
       rw [e1]at h3⊢;rw [e2]at h3;rw [zuo N hN _ _ _ (by omega) (zi3 _) (by omega) ht,Int.sub_eq_add_neg,←h3,zaco _ _ _ (zi3 _)];rfl
     · rw [ifn o1,zbx,dcf o1,cfa]
       by_cases o2:op=2
       · rw [ifp o2,zbx,dct o2,ctr,z14 N hN ha,obs];have e:(if w6 (0-b.N)>b.N then w6 (0-b.N)else b.N)=((b.N.natAbs:Nat):Int):=by
          rw [w6e];split<;>omega
         rw [e,zug,mel (by omega),z6l N (by omega) _ _ (by omega),obs,zsi,obs,w6e,zx3 N hN (by omega) (by omega)];simp only [obs];have hm:a.N.natAbs*b.N.natAbs≤10^15*10^15:=Nat.mul_le_mul (by omega) (by omega);have hm2:10^(a.Scale+b.Scale).toNat≤10^30:=zhy (by omega);rw [zuo N hN _ _ _ (by omega) (zi3 _) (by omega) ht];rfl
       · rw [ifn o2,zbx,dcf o2,cfa]
         by_cases o3:op=3
         · have hb0:b.N≠0:=fun h=>hz ⟨.inl o3,h⟩;have e1:=zq8 N hN ha b.Scale.toNat (by omega);have e2:=zq8 N hN hb a.Scale.toNat (by omega);rw [Int.toNat_of_nonneg (by omega)]at e1 e2;have hm:a.N.natAbs*10^b.Scale.toNat≤10^15*10^15:=Nat.mul_le_mul (by omega) (by omega);have hm2:b.N.natAbs*10^a.Scale.toNat≤10^15*10^15:=Nat.mul_le_mul (by omega) (by omega);rw [ifp o3,zbx,dct o3,ctr,e1,obs,e2,obs,obs];rw [zuo N hN _ _ _ (by omega) (Nat.mul_pos (by omega) (zi3 _)) (by omega) ht];rfl
         · have hb0:b.N≠0:=fun h=>hz ⟨by omega,h⟩;have la:=zoz ha s4;have lb:=zoz hb s4;have hb1:(zdc b (zaw a b)).natAbs≠0:=fun h=>hb0 ((z8n b (zaw a b)).1 (Int.natAbs_eq_zero.1 h));have hm:=Nat.mod_lt (zdc a (zaw a b)).natAbs (show 0<(zdc b (zaw a b)).natAbs by omega);rw [ifn o3,zbx,dcf o3,cfa,zv3 N hN ha hb,obs];simp only [];rw [z13 N hN _ _ (by unfold zll;omega) (by omega) (by omega),obs,zsi,obs];rw [zx3 N hN s3 (by omega)];simp only [obs];rw [zuo N hN _ _ _ (by omega) (zi3 _) (by omega) ht];rfl
def bl (b:ByteArray):List UInt8:=b.data.toList
theorem zcy (b:ByteArray):(bl b).length=b.size:=rfl
theorem znn {a b:ByteArray} (h:bl a=bl b):a=b:=by
 cases a;cases b
 unfold bl at h
 simp only at h
 congr 1
 exact Array.toList_inj.1 h
theorem zos (b:ByteArray) (i:Nat):znh b (i:Int)=(bl b)[i]?:=by
 unfold znh bl
 rw [ifp]
 show b[i]?=_
 by_cases h:i<b.size
 · rw [getElem?_pos b i h,lge (by simpa using h)]
   congr 1
 · rw [getElem?_neg b i h,List.getElem?_eq_none (by simpa using h)]
theorem zgp (b:ByteArray) (i j:Nat):bl (b.extract i j)=((bl b).take j).drop i:=by
 unfold bl
 rw [ByteArray.data_extract,Array.toList_extract,List.extract_eq_drop_take',List.drop_take]
theorem zl5 (a b:ByteArray):bl (a++b)=bl a++bl b:=by
 unfold bl
 rw [ByteArray.data_append,Array.toList_append]
theorem zam4 (l:List UInt8):bl ⟨l.toArray⟩=l:=rfl
def beV (l:List UInt8):Nat:=l.foldl (fun n c=>n*256+c.toNat) 0
theorem zws (l:List UInt8) (x:UInt8):beV (l++[x])=beV l*256+x.toNat:=by
 unfold beV;rw [List.foldl_append];rfl
theorem zadu (l:List UInt8):beV l<256^l.length:=by
 have key:∀(l r:List UInt8),l=r.reverse→beV l<256^l.length:=by
  intro l r
  induction r generalizing l with
  | nil=>intro h;subst h;decide
  | cons x r ih=>
   intro h;rw [List.reverse_cons]at h;subst h;have:=ih _ rfl;rw [zws,lna,lns,Nat.pow_succ];have:=x.toNat_lt;omega
 exact key l l.reverse (by simp)
theorem zjt {α:Type} (l:List α) (i:Nat) {x:α} (h:l[i]?=some x):l.take (i+1)=l.take i++[x]:=by
 obtain⟨h1,h2⟩:=gei h
 rw [List.take_succ_eq_append_getElem h1,h2]
theorem zqv {α:Type} {l:List α} {i:Nat} (h:i<l.length):∃x,l[i]?=some x:=⟨_,lge h⟩
theorem or8 (n:Int) (c:Nat) (h1: -36028797018963968≤n) (h2:n<36028797018963968) (hc:c<256):orI .i64 (n*256) (c:Int)=n*256+c:=by
 unfold orI
 have e:(BitVec.ofInt IntKind.i64.bits (n*256)|||BitVec.ofInt IntKind.i64.bits (c:Int)).toNat=((n*256)%18446744073709551616).toNat+c:=by
  show(BitVec.ofInt 64 (n*256)|||BitVec.ofInt 64 (c:Int)).toNat=_;rw [BitVec.toNat_or,BitVec.ofInt_natCast,BitVec.toNat_ofNat,BitVec.toNat_ofInt,mel (by omega)];show((n*256)%18446744073709551616).toNat|||c=_;have:=Nat.two_pow_add_eq_or_of_lt (i:=8) (b:=c) hc (((n*256)%18446744073709551616).toNat/256);rw [show 2^8*(((n*256)%18446744073709551616).toNat/256)=((n*256)%18446744073709551616).toNat by omega]at this;exact this.symm
 rw [e]
 have k:(2:Int)^(IntKind.i64.bits)=18446744073709551616:=by decide
 have k':(2:Int)^(IntKind.i64.bits-1)=9223372036854775808:=by decide
 unfold IntKind.wrap
 simp only [k,k',show IntKind.i64.signed=true from rfl,Bool.true_and,decide_eq_true_eq,ge_iff_le]
 split<;>omega
theorem z5i (N:Nat) (hN:20<N) (b:ByteArray) (hb:b.size≤6):zbc N b=some (beV (bl b):Int):=by
 unfold zbc
 have:=zdb (f:=zbc.r0 N) (fun i=>(b,((beV ((bl b).take i):Nat):Int),(b.size:Int),(i:Int))) b.size
  (fun i hi=>by
   obtain⟨x,hx⟩:∃x,(bl b)[i]?=some x:=zqv (by rw [zcy];exact hi);have hl:=zadu ((bl b).take i);have hl2:256^((bl b).take i).length≤256^6:=Nat.pow_le_pow_right (by decide) (by rw [lnt,zcy];omega);have hc:=x.toNat_lt;simp only [zbc.r0,zbc.b0,dct (show(i:Int)<(b.size:Int)by omega),ctr,zos,hx,obs];rw [show(2:Int)^(min (8:Int).toNat 64)=256 from rfl,w6e (n:=((beV ((bl b).take i):Nat):Int)*256),w6e (n:=(x.toNat:Int)),w6e (n:=(i:Int)+1),or8 _ _ (by omega) (by omega) hc,zjt _ _ hx,zws];simp only [Int.natCast_add,Int.natCast_mul,Int.natCast_one];rfl)
  (by simp only [zbc.r0,zbc.b0,dcf (show ¬(b.size:Int)<(b.size:Int)by omega),cfa]) (N:=N) (by omega)
 simp only [List.take_zero,nc0]at this
 rw [show((beV []:Nat):Int)=0 from rfl]at this
 rw [this,←zcy,List.take_length]
 rfl
def zb4 (v k:Nat):List Int:=(List.range k).map fun j=>((v/256^(k-1-j)%256:Nat):Int)
theorem z02 (v k:Nat):(zb4 v k).length=k:=by simp [zb4]
def zlv (f:Nat→Int) (k i:Nat):List Int:=(List.range k).map fun j=>if k-i≤j then f (k-1-j)else 0
theorem z0j (f:Nat→Int) (k i:Nat):(zlv f k i).length=k:=by simp [zlv]
theorem zxw (f:Nat→Int) (k:Nat):zlv f k 0=List.replicate k (0:Int):=by
 unfold zlv
 refine List.ext_getElem? fun j=> ?_
 rw [List.getElem?_map,List.getElem?_replicate]
 by_cases h:j<k
 · rw [lge (by simpa using h),ifp h];simp only [List.getElem_range,Option.map_some];rw [ifn]
 · rw [List.getElem?_eq_none (by simpa using h),ifn h];rfl
theorem zxy (f:Nat→Int) (k:Nat):zlv f k k=(List.range k).map fun j=>f (k-1-j):=by
 unfold zlv
 refine List.map_congr_left fun j _=> ?_
 rw [ifp]
theorem zxx (f:Nat→Int) (k i:Nat) (h:i<k):(zlv f k i).set (k-1-i) (f i)=zlv f k (i+1):=by
 refine List.ext_getElem? fun j=> ?_
 rw [List.getElem?_set]
 unfold zlv
 simp only [lnm,List.length_range,List.getElem?_map]
 by_cases hj:j<k
 · rw [lge (by simpa using hj)];simp only [List.getElem_range,Option.map_some]
   by_cases he:k-1-i=j
   · rw [ifp he,ifp,ifp,show k-1-j=i by omega]
   · rw [ifn he]
     congr 1
     by_cases h2:k-i≤j
     · rw [ifp h2,ifp]
     · rw [ifn h2,ifn]
 · rw [List.getElem?_eq_none (by simpa using hj)]
   by_cases he:k-1-i=j
   · omega
   · rw [ifn he];rfl
def z3g (v k i:Nat):List Int:=zlv (fun e=>((v/256^e%256:Nat):Int)) k i
theorem zadq (v k:Nat):z3g v k 0=List.replicate k (0:Int):=zxw _ k
theorem zads (v k:Nat):z3g v k k=zb4 v k:=zxy _ k
theorem zadr (v k i:Nat) (h:i<k):(z3g v k i).set (k-1-i) ((v/256^i%256:Nat):Int)=z3g v k (i+1):=zxx _ k i h
theorem zaf7 (m:Nat):IntKind.wrap .u8 (m:Int)=((m%256:Nat):Int):=by
 have e:(2:Int)^(IntKind.u8.bits)=256:=by decide
 unfold IntKind.wrap
 simp only [e,show IntKind.u8.signed=false from rfl,Bool.false_and]
 simp only [Bool.false_eq_true,if_false]
 omega
theorem zaiq (N:Nat) (hN:20<N) (v k:Nat) (hk:k≤8):zcq N (v:Int) (k:Int)=some (zb4 v k):=by
 unfold zcq
 have:=zdb (f:=zcq.r0 N) (fun i=>((v:Int),(k:Int),z3g v k i,(k:Int),(i:Int))) k
  (fun i hi=>by
   have hl:(z3g v k i).length=k:=z0j _ _ _;simp only [zcq.r0,zcq.b0,dct (show(i:Int)<(k:Int)by omega),ctr,hl];rw [w6e (n:=8*(i:Int)),w6e (n:=(k:Int)-1),w6e (n:=(k:Int)-1-(i:Int)),ifn,ifp,ifp];have e0:((k:Int)-1-(i:Int)).toNat=k-1-i:=by omega
   rw [e0,lge (by omega),obs,w6e (n:=(i:Int)+1)];have e1:((v:Int).fdiv (2^(min (8*(i:Int)).toNat 64)))=((v/256^i:Nat):Int):=by
    rw [show(8*(i:Int)).toNat=8*i by omega,Nat.min_eq_left (by omega),show(2:Int)^(8*i)=((256^i:Nat):Int)by
     rw [show(256:Nat)=2^8 from rfl,←Nat.pow_mul,Int.natCast_pow];rfl,zwh]
   rw [e1,zaf7,zadr v k i hi];rfl)
  (by simp only [zcq.r0,zcq.b0,dcf (show ¬(k:Int)<(k:Int)by omega),cfa]) (N:=N) (by omega)
 rw [ifp,ifp]
 have hr:Nat.ble ((k:Int).toNat*1) zae=true:=by
  rw [Nat.ble_eq];unfold zae;omega
 rw [hr,ctr,itn,lnr]
 simp only [zadq,nc0]at this
 rw [this,obs,zads]
def z07:Pointer:=⟨0,⟨0,0⟩,0⟩
def zkj (off:Int):Pointer:=⟨0,⟨1,off⟩,0⟩
def zwn (p:Pointer):Int:=cond (!inB p.Kind 0 2) 4 (cond (!inB p.Address.yF 0 1099511627775||(!inB p.Address.Offset 0 16777215|| !inB p.Authority 0 1023)) 3 (cond (p.Authority !=0&&p.Kind !=1) 5 0))
theorem z3r (p:Pointer):zdu p=some (zwn p):=by
 unfold zdu zwn
 simp only [zafn,obs,zm1]
 generalize inB p.Kind 0 2=a
 generalize inB p.Address.yF 0 1099511627775=b
 generalize inB p.Address.Offset 0 16777215=c
 generalize inB p.Authority 0 1023=d
 generalize (p.Authority !=0&&p.Kind !=1)=e
 cases a<;>cases b<;>cases c<;>cases d<;>cases e<;>rfl
def z0k (l:List UInt8):Pointer:=⟨((l.getD 0 0).toNat:Nat),⟨(beV ((l.drop 4).take 6):Nat),(beV ((l.drop 10).take 6):Nat)⟩,(beV ((l.drop 2).take 2):Nat)⟩
def zsg (l:List UInt8):Pointer × Int:=if(l.getD 1 0).toNat≠0 then(z07,5)else if zwn (z0k l)≠0 then(z07,zwn (z0k l))else(z0k l,0)
theorem z3b {l:List UInt8} {i:Nat} (h:i<l.length):l[i]?=some (l.getD i 0):=by
 rw [gdd,lge h];rfl
theorem z5h (N:Nat) (hN:20<N) (b:ByteArray) (hb:b.size=16):zea N b=some (zsg (bl b)):=by
 have hl:(bl b).length=16:=hb
 have i1:znh b 1=some ((bl b).getD 1 0):=by rw [show(1:Int)=((1:Nat):Int)from rfl,zos,z3b (by omega)]
 have i0:znh b 0=some ((bl b).getD 0 0):=by rw [show(0:Int)=((0:Nat):Int)from rfl,zos,z3b (by omega)]
 have z1:(b.extract (2:Int).toNat (4:Int).toNat).size=2:=zet b 2 4 (by omega) (by omega)
 have z2:(b.extract (4:Int).toNat (10:Int).toNat).size=6:=zet b 4 10 (by omega) (by omega)
 have z3:(b.extract (10:Int).toNat b.size).size=6:=(zet b 10 b.size (by omega) (by omega)).trans (by omega)
 have e1:=z5i N hN (b.extract (2:Int).toNat (4:Int).toNat) (by omega)
 have e2:=z5i N hN (b.extract (4:Int).toNat (10:Int).toNat) (by omega)
 have e3:=z5i N hN (b.extract (10:Int).toNat b.size) (by omega)
 rw [zgp,show(2:Int).toNat=2 from rfl,show(4:Int).toNat=4 from rfl,List.drop_take]at e1
 rw [zgp,show(4:Int).toNat=4 from rfl,show(10:Int).toNat=10 from rfl,List.drop_take]at e2
 rw [zgp,show(10:Int).toNat=10 from rfl,List.drop_take,hb]at e3
 unfold zea
 rw [show((b.size:Int) !=16)=false by rw [hb];rfl]
 simp only [cfa,i1,i0,obs]
 by_cases h:((bl b).getD 1 0).toNat=0
 · rw [h,show((((0:Nat):Int)) !=0)=false from rfl,cfa];rw [ifp,ifp,show(2:Int).toNat=2 from rfl,show(4:Int).toNat=4 from rfl,e1];simp only [obs];rw [ifp,ifp,show(10:Int).toNat=10 from rfl,e2];simp only [obs];rw [ifp,hb,e3];simp only [obs];have hx:=((bl b).getD 0 0).toNat_lt;rw [w6e];rw [show(⟨(((bl b).getD 0 0).toNat:Int),⟨(beV (((bl b).drop 4).take (10-4)):Int),(beV (((bl b).drop 10).take (16-10)):Int)⟩,(beV (((bl b).drop 2).take (4-2)):Int)⟩:Pointer)=z0k (bl b)from rfl,z3r];simp only [obs];unfold zsg;rw [ifn]
   by_cases h2:zwn (z0k (bl b))=0
   · rw [h2];rfl
   · rw [ifp h2,zde,dct h2];rfl
 · unfold zsg;rw [ifp h,zde,dct (by omega)];rfl
theorem zaiz (N:Nat) (hN:20<N) (b:ByteArray) (hb:b.size=16):z0f N b=some (zsg (bl b)):=z5h N hN b hb
def zpi (s:Storage) (i:Nat):List UInt8:=((bl s.Bytes).drop (16*i)).take 16
def gS (s:Storage) (i:Nat):Option (Int × Int):=(s.Tags[i]?).bind fun t=>if t=true∧(zsg (zpi s i)).2≠0 then some ((i:Int),22)else none
def zvf (s:Storage):Int × Int:=
 if s.Bytes.size>1024 then(0,2)else if s.Bytes.size%16≠0 then(0,18)else if s.Tags.length≠s.Bytes.size/16 then(0,6)
 else match(List.range s.Tags.length).findSome? (gS s)with|some r=>r|none=>((s.Tags.length:Int),0)
theorem zse (s:Storage) (i:Nat):bl (s.Bytes.extract (16*i) (16*i+16))=zpi s i:=by
 rw [zgp,List.drop_take,zpi,show 16*i+16-16*i=16 by omega]
theorem zvd (N:Nat) (hN:2000<N) (s:Storage):zq N s=some (zvf s)∧zdk N s=some (zvf s):=by
 unfold zq zdk zvf
 by_cases h1:(s.Bytes.size:Int)>1024
 · rw [dct h1,ifp];exact⟨rfl,rfl⟩
 · rw [dcf h1,ifn];have hm:(s.Bytes.size:Int).tmod 16=(s.Bytes.size:Int)%16:=tme;have hd:(s.Bytes.size:Int).tdiv 16=(s.Bytes.size:Int)/16:=tde
   by_cases h2:(s.Bytes.size:Int)%16=0
   · rw [hm,hd,w6e,ifn]
     by_cases h3:(s.Tags.length:Int)=(s.Bytes.size:Int)/16
     · rw [show(((s.Bytes.size:Int)%16) !=0)=false by rw [h2];rfl,show((s.Tags.length:Int) !=(s.Bytes.size:Int)/16)=false by rw [←h3];exact bsf _,ifn];simp only [cfa];have hw:∀i:Nat,i<s.Tags.length→w6 ((i:Int)*16)=(i:Int)*16∧w6 ((i:Int)*16+16)=(i:Int)*16+16:=fun i hi=>⟨w6e,w6e⟩;have hx:∀i:Nat,i<s.Tags.length→s.Bytes.extract ((i:Int)*16).toNat ((i:Int)*16+16).toNat=s.Bytes.extract (16*i) (16*i+16):=fun i hi=>by
        rw [show((i:Int)*16).toNat=16*i by omega,show((i:Int)*16+16).toNat=16*i+16 by omega]
       have hz:∀i:Nat,i<s.Tags.length→(s.Bytes.extract (16*i) (16*i+16)).size=16:=fun i hi=>by
        rw [zet _ _ _ (by omega) (by omega)];omega
       constructor
       · have l1:=zcm (f:=zq.r1 N) (fun i=>(s.Tags,(s.Tags.length:Int),(i:Int),s)) (gS s) s.Tags.length
          (fun i hi=>by
           obtain⟨w1,w2⟩:=hw i hi;have hx1:=lge hi;simp only [zq.r1,zq.b1,zau,hx1,obs,dct (show(i:Int)<(s.Tags.length:Int)by omega),ctr,gS];rw [w6e (n:=(i:Int)+1)];cases hb:s.Tags[i]with
           | false=>simp
           | true=>
            simp only [bnt,cfa,w1,w2];rw [ifp,ifp,hx i hi,z5h N (by omega) _ (hz i hi),zse];simp only [obs]
            by_cases hq:(zsg (zpi s i)).2=0
            · rw [hq];simp
            · rw [zde,dct hq,ifp ⟨trivial,hq⟩];rfl)
          (by simp only [zq.r1,zq.b1,dcf (show ¬(s.Tags.length:Int)<(s.Tags.length:Int)by omega),cfa]) (N:=N) (by omega)
         simp only [nc0]at l1;rw [l1];simp only [obs];cases(List.range s.Tags.length).findSome? (gS s)<;>rfl
       · have l1:=zcm (f:=zdk.r0 N) (fun i=>((s.Bytes.size:Int)/16,(i:Int),s)) (gS s) s.Tags.length
          (fun i hi=>by
           obtain⟨w1,w2⟩:=hw i hi;have hx1:=lge hi;simp only [zdk.r0,zdk.b0,zau,hx1,obs,dct (show(i:Int)<(s.Bytes.size:Int)/16 by omega),ctr,gS];rw [w6e (n:=(i:Int)+1)];cases hb:s.Tags[i]with
           | false=>simp
           | true=>
            simp only [ctr,zvp,w1,w2];rw [ifp,ifp];simp only [obs];rw [hx i hi,zaiz N (by omega) _ (hz i hi),zse];simp only [obs]
            by_cases hq:(zsg (zpi s i)).2=0
            · rw [hq];simp
            · rw [zde,dct hq,ifp ⟨trivial,hq⟩];rfl)
          (by simp only [zdk.r0,zdk.b0,dcf (show ¬(s.Tags.length:Int)<(s.Bytes.size:Int)/16 by omega),cfa]) (N:=N) (by omega)
         simp only [nc0]at l1;rw [l1];simp only [obs];cases(List.range s.Tags.length).findSome? (gS s)with
         | some r=>rfl
         | none=>simp only [zbq,←h3]
     · rw [show(((s.Bytes.size:Int)%16) !=0)=false by rw [h2];rfl,show((s.Tags.length:Int) !=(s.Bytes.size:Int)/16)=true by rw [zde];exact dct h3,ifp];exact⟨rfl,rfl⟩
   · rw [hm,show(((s.Bytes.size:Int)%16) !=0)=true by rw [zde];exact dct h2,ifp];exact⟨rfl,rfl⟩
structure zjh (s:Storage):Prop where
 le:s.Bytes.size≤1024
 quad:s.Bytes.size%16=0
 tags:s.Tags.length=s.Bytes.size/16
 ptr:∀i,s.Tags[i]?=some true→∃off:Int,(0≤off∧off≤16777215)∧zsg (zpi s i)=(zkj off,0)
theorem zjh.err {s:Storage} (h:zjh s):zvf s=((s.Tags.length:Int),0):=by
 obtain⟨h1,h2,h3,h4⟩:=h
 unfold zvf
 rw [ifn,ifn,ifn]
 have:(List.range s.Tags.length).findSome? (gS s)=none:=by
  rw [List.findSome?_eq_none_iff];intro i _;unfold gS;cases ht:s.Tags[i]? with
  | none=>rfl
  | some t=>
   rw [obs];split
   · rename_i h5;rw [h5.1]at ht;obtain⟨off,_,h6⟩:=h4 i ht;rw [h6]at h5;exact absurd rfl h5.2
   · rfl
 rw [this]
theorem zjh.ok {s:Storage} (h:zjh s):StoOk s:=⟨h.le,h.quad⟩
def ldV (s:Storage) (at_:Int):Option Int:=if s.Tags[(at_/16).toNat]?=some true then some (zsg (zpi s (at_/16).toNat)).1.Address.Offset else none
theorem zs8 {s:Storage} (h:zjh s) {at_ o:Int} (hl:ldV s at_=some o):0≤o∧o≤16777215:=by
 unfold ldV at hl
 split at hl
 · rename_i ht;obtain⟨off,h1,h2⟩:=h.ptr _ ht;rw [h2]at hl;cases hl;exact h1
 · cases hl
theorem zmu {s:Storage} {a:Int} (h:ze7 s a=true):0≤a∧a%16=0∧a<(s.Bytes.size:Int):=by
 unfold ze7 at h
 simpa using h
theorem z84 (N:Nat) (hN:2000<N) {s:Storage} (h:zjh s) {a:Int} (ha:ze7 s a=true):
 zf9 N s a=some (match ldV s a with|some o=>(zkj o,0)|none=>(z07,22)):=by
 obtain⟨a1,a2,a3⟩:=zmu ha
 have hl:=h.le
 have hq:=h.quad
 have ht:=h.tags
 unfold zf9 zi0
 rw [(zvd N hN s).1,h.err]
 simp only [obs,bsf,cfa]
 rw [dcf (show ¬a<0 by omega),dcf (show ¬a≥(s.Bytes.size:Int)by omega),tme a1,a2]
 simp only [bsf,cfa,obs]
 have ed:w6 (a.tdiv 16)=(((a/16).toNat:Nat):Int):=by
  rw [tde a1,w6e];omega
 have hi:(a/16).toNat<s.Tags.length:=by omega
 rw [ed,zau,lge hi]
 simp only [obs]
 unfold ldV
 rw [lge hi]
 cases hb:s.Tags[(a/16).toNat]with
 | false=>rfl
 | true=>
  simp only [bnt,cfa,if_true];rw [w6e,ifp,ifp];have e:s.Bytes.extract a.toNat (a+16).toNat=s.Bytes.extract (16*(a/16).toNat) (16*(a/16).toNat+16):=by
   rw [show a.toNat=16*(a/16).toNat by omega,show(a+16).toNat=16*(a/16).toNat+16 by omega]
  rw [e,z5h N (by omega) _ (by rw [zet _ _ _ (by omega) (by omega)];omega),zse];obtain⟨off,_,h2⟩:=h.ptr (a/16).toNat (by rw [lge hi,hb]);rw [h2];rfl
theorem zds {n:Nat} (h:n≤1000000):Nat.ble n zae=true:=by
 rw [Nat.ble_eq];unfold zae;omega
def spl (l:List UInt8) (a:Nat) (d:List UInt8):List UInt8:=l.take a++d++l.drop (a+d.length)
theorem zagg {l:List UInt8} {a:Nat} {d:List UInt8} (h:a+d.length≤l.length):(spl l a d).length=l.length:=by
 unfold spl
 simp only [lna,lnt,List.length_drop]
 omega
def clr (t:List Bool) (a n:Nat):List Bool:=(List.range t.length).map fun k=>if 16*k<a+n∧a<16*k+16 then false else t.getD k false
theorem z9v (t:List Bool) (a n:Nat):(clr t a n).length=t.length:=by simp [clr]
theorem z9w (t:List Bool) (a n k:Nat):(clr t a n)[k]?=if 16*k<a+n∧a<16*k+16 then(if k<t.length then some false else none)else t[k]?:=by
 unfold clr
 rw [List.getElem?_map]
 by_cases h:k<t.length
 · rw [lge (by simpa using h)];simp only [List.getElem_range,Option.map_some];split
   · simp [h]
   · rw [lge h,gdd,lge h];rfl
 · rw [List.getElem?_eq_none (by simpa using h),List.getElem?_eq_none (by simpa using h)];simp [h]
def wrV (s:Storage) (a:Nat) (d:ByteArray):Storage:=⟨⟨(spl (bl s.Bytes) a (bl d)).toArray⟩,clr s.Tags a d.size⟩
theorem zu9 {s:Storage} {a:Nat} {d:ByteArray} (h:a+d.size≤s.Bytes.size):(wrV s a d).Bytes.size=s.Bytes.size:=zagg (l:=bl s.Bytes) (d:=bl d) h
theorem z7x {l:List UInt8} {a:Nat} {d:List UInt8} (h:a+d.length≤l.length) (i n:Nat) (hi:i+n≤a∨a+d.length≤i):((spl l a d).drop i).take n=(l.drop i).take n:=by
 refine List.ext_getElem? fun k=> ?_
 rw [List.getElem?_take,List.getElem?_take]
 by_cases hk:k<n
 · rw [ifp hk,ifp hk,List.getElem?_drop,List.getElem?_drop];unfold spl;rcases hi with hi|hi
   · rw [List.append_assoc,List.getElem?_append_left (by rw [lnt];omega),List.getElem?_take,ifp]
   · rw [List.getElem?_append_right (by rw [lna,lnt];omega),lna,lnt,List.getElem?_drop]
     congr 1
     omega
 · rw [ifn hk,ifn hk]
theorem zab4 {l:List UInt8} {a:Nat} {d:List UInt8} (h:a+d.length≤l.length):((spl l a d).drop a).take d.length=d:=by
 unfold spl
 rw [List.append_assoc,List.drop_append_of_le_length (by rw [lnt];omega),List.drop_of_length_le (by rw [lnt];omega),List.nil_append,List.take_append_of_le_length (Nat.le_refl _),List.take_length]
theorem z44 {s:Storage} (h:zjh s) {a:Nat} {d:ByteArray} (hd:a+d.size≤s.Bytes.size) (hd0:0<d.size):zjh (wrV s a d):=by
 have hs:=zu9 hd
 refine⟨by rw [hs];exact h.le,by rw [hs];exact h.quad,by rw [hs];exact(z9v _ _ _).trans h.tags,fun i hi=> ?_⟩
 have hi':(clr s.Tags a d.size)[i]?=some true:=hi
 rw [z9w]at hi'
 split at hi'
 · split at hi'<;>cases hi'
 · rename_i hn;obtain⟨off,h1,h2⟩:=h.ptr i hi';refine⟨off,h1,?_⟩;have:zpi (wrV s a d) i=zpi s i:=z7x (l:=bl s.Bytes) (d:=bl d) hd _ _ (by rw [zcy];omega);rw [this];exact h2
theorem zsw (b:ByteArray):b.toList=bl b:=ByteArray.toList_eq b
theorem zab1 {s:Storage} (h:zjh s) {a:Nat} {d:ByteArray} (hd:a+d.size≤s.Bytes.size) (hd0:0<d.size):zkz s (a:Int) d=some (wrV s a d):=by
 have hl:=h.le
 have hq:=h.quad
 have ht:=h.tags
 have hmax:IntKind.i64.max=9223372036854775807:=by decide
 unfold zkz
 rw [hmax]
 have z1:(s.Bytes.extract (0:Int).toNat (a:Int).toNat).size=a:=by rw [zet _ _ _ (by omega) (by omega)];omega
 rw [ifp,ifp,ifn (by rw [z1];omega),w6e (n:=(a:Int)+(d.size:Int)),ifp]
 have z2:(s.Bytes.extract ((a:Int)+(d.size:Int)).toNat s.Bytes.size).size=s.Bytes.size-(a+d.size):=by rw [zet _ _ _ (by omega) (by omega)];omega
 rw [ifn (by rw [z2,bsa,z1];omega)]
 have hc:zc6 1 s.Tags=some s.Tags:=by unfold zc6;rw [zds (by omega)];rfl
 rw [hc]
 simp only [obs]
 have hne:(d.toList==(⟨#[]⟩:ByteArray).toList)=false:=by
  rw [zsw,zsw];refine beq_eq_false_iff_ne.2 fun h=> ?_;have:=congrArg List.length h;rw [zcy,zcy]at this;have:d.size=0:=this;omega
 rw [hne]
 simp only [Bool.not_false,ctr]
 have e1:w6 ((w6 ((w6 ((a:Int)+(d.size:Int)-1)).tdiv 16))+1)=(((a+d.size-1)/16+1:Nat):Int):=by
  rw [w6e (n:=(a:Int)+(d.size:Int)-1),tde,w6e (n:=((a:Int)+(d.size:Int)-1)/16),w6e];omega
 have e2:w6 ((a:Int).tdiv 16)=((a/16:Nat):Int):=by
  rw [tde,w6e];omega
 rw [e1,e2,ifp,ifp]
 simp only [itn]
 have f1:((s.Bytes.extract (0:Int).toNat a)++d)++(s.Bytes.extract ((a:Int)+(d.size:Int)).toNat s.Bytes.size)=(wrV s a d).Bytes:=by
  refine znn ?_;rw [zl5,zl5,zgp,zgp,show(0:Int).toNat=0 from rfl,dr0,show((a:Int)+(d.size:Int)).toNat=a+d.size by omega,←zcy s.Bytes,List.take_length];rfl
 have f2:s.Tags.take (a/16)++List.replicate ((a+d.size-1)/16+1-a/16) false++s.Tags.drop (a/16+((a+d.size-1)/16+1-a/16))=(wrV s a d).Tags:=by
  refine List.ext_getElem? fun k=> ?_;show _=(clr s.Tags a d.size)[k]?;rw [z9w]
  by_cases h1:k<a/16
  · rw [List.append_assoc,List.getElem?_append_left (by rw [lnt];omega),List.getElem?_take,ifp h1,ifn]
  · by_cases h2:k<(a+d.size-1)/16+1
    · rw [List.append_assoc,List.getElem?_append_right (by rw [lnt];omega),List.getElem?_append_left (by rw [lnt,lnr];omega),List.getElem?_replicate,ifp (by rw [lnt];omega),ifp,ifp]
    · rw [List.getElem?_append_right (by rw [lna,lnt,lnr];omega),lna,lnt,lnr,List.getElem?_drop,ifn]
      congr 1
      omega
 rw [f1,f2]
theorem zzz (N:Nat) (hN:2000<N) {s:Storage} (h:zjh s) {a:Nat} {d:ByteArray} (hd:a+d.size≤s.Bytes.size) (hd0:0<d.size):ze0 N s (a:Int) d=some (wrV s a d,0):=by
 have hl:=h.le
 unfold ze0 zmk
 rw [(zvd N hN s).1,h.err]
 simp only [obs,bsf,cfa]
 rw [dcf (show ¬(a:Int)<0 by omega),dcf (show ¬(d.size:Int)<0 by omega),dcf (show ¬(a:Int)>(s.Bytes.size:Int)by omega),w6e,dcf (show ¬(d.size:Int)>(s.Bytes.size:Int)-(a:Int)by omega)]
 simp only [cfa,obs,bsf]
 rw [zab1 h hd hd0]
 rfl
def pbV (off:Nat):ByteArray:=zhq (zb4 0 1++zb4 0 1++zb4 0 2++zb4 1 6++zb4 off 6)
theorem zwq (l:List Int):bl (zhq l)=l.map fun n=>UInt8.ofNat n.toNat:=rfl
theorem znd (off:Nat):(pbV off).size=16:=by
 show(bl (pbV off)).length=16
 unfold pbV
 rw [zwq]
 simp only [lnm,lna,z02]
theorem z03 (v k:Nat):beV ((zb4 v k).map fun n=>UInt8.ofNat n.toNat)=v%256^k:=by
 induction k generalizing v with
 | zero=>rw [Nat.pow_zero,Nat.mod_one];rfl
 | succ k ih=>
  have e:zb4 v (k+1)=zb4 (v/256) k++[((v%256:Nat):Int)]:=by
   unfold zb4;rw [List.range_succ,List.map_append]
   congr 1
   · refine List.map_congr_left fun j hj=> ?_;have:=List.mem_range.1 hj;rw [Nat.div_div_eq_div_mul,←Nat.pow_succ',show k+1-1-j=k-1-j+1 by omega]
   · simp
  rw [e,List.map_append,List.map_singleton,zws,ih,itn,UInt8.toNat_ofNat',show 256^(k+1)=256*256^k from Nat.pow_succ',Nat.mod_mul];omega
theorem zagz (off:Nat) (h:off≤16777215):zsg (bl (pbV off))=(zkj off,0):=by
 have e:bl (pbV off)=(zb4 0 1).map (fun n=>UInt8.ofNat n.toNat)++((zb4 0 1).map (fun n=>UInt8.ofNat n.toNat)++((zb4 0 2).map (fun n=>UInt8.ofNat n.toNat)++((zb4 1 6).map (fun n=>UInt8.ofNat n.toNat)++(zb4 off 6).map (fun n=>UInt8.ofNat n.toNat)))):=by
  unfold pbV;rw [zwq];simp only [List.map_append,List.append_assoc]
 have l6:∀v,((zb4 v 6).map (fun n=>UInt8.ofNat n.toNat)).length=6:=fun v=>by simp [z02]
 have e2:bl (pbV off)=0::0::0::0::((zb4 1 6).map (fun n=>UInt8.ofNat n.toNat)++(zb4 off 6).map (fun n=>UInt8.ofNat n.toNat)):=e
 have hp:z0k (bl (pbV off))=zkj off:=by
  unfold z0k zkj;rw [e2];simp only [List.drop_succ_cons,dr0,List.take_succ_cons,List.take_zero,List.getD_cons_zero];rw [List.take_append_of_le_length (by rw [l6];omega),List.take_of_length_le (by rw [l6];omega),z03,List.drop_append_of_le_length (by rw [l6];omega),List.drop_of_length_le (by rw [l6];omega),List.nil_append,List.take_of_length_le (by rw [l6];omega),z03,mel (show off<256^6 by omega)];rfl
 have h1:((bl (pbV off)).getD 1 0).toNat=0:=by rw [e2];rfl
 have hc:zwn (zkj off)=0:=by
  unfold zwn zkj;rw [show inB (off:Int) 0 16777215=true from zay.2 ⟨by omega,by omega⟩];rfl
 unfold zsg
 rw [ifn (by rw [h1];exact fun h=>h rfl),hp,hc]
 rfl
def stV (s:Storage) (a:Nat) (off:Nat):Storage:=⟨(wrV s a (pbV off)).Bytes,(wrV s a (pbV off)).Tags.set (a/16) true⟩
theorem zz2 {s:Storage} {a off:Nat} (h:a+16≤s.Bytes.size):(stV s a off).Bytes.size=s.Bytes.size:=zu9 (d:=pbV off) (by rw [znd];exact h)
theorem z5k {s:Storage} (h:zjh s) {a off:Nat} (ha:a+16≤s.Bytes.size) (hq:a%16=0) (ho:off≤16777215):zjh (stV s a off):=by
 have hw:=z44 h (a:=a) (d:=pbV off) (by rw [znd];exact ha) (by rw [znd];omega)
 refine⟨hw.le,hw.quad,?_,fun i hi=> ?_⟩
 · show((wrV s a (pbV off)).Tags.set (a/16) true).length=_;rw [List.length_set];exact hw.tags
 · have hi':((wrV s a (pbV off)).Tags.set (a/16) true)[i]?=some true:=hi;rw [List.getElem?_set]at hi';split at hi'
   · rename_i he;refine⟨off,⟨by omega,by omega⟩,?_⟩;have:zpi (stV s a off) i=bl (pbV off):=by
      have:=zab4 (l:=bl s.Bytes) (a:=a) (d:=bl (pbV off)) (by rw [zcy,zcy,znd];exact ha);rw [zcy,znd]at this;unfold zpi;rw [←he,show 16*(a/16)=a by omega];exact this
     rw [this];exact zagz off ho
   · obtain⟨o,h1,h2⟩:=hw.ptr i hi';exact⟨o,h1,h2⟩
theorem zaac (N:Nat) (hN:100<N) (off:Nat) (h:off≤16777215):zj0 N (zkj off)=some (pbV off):=by
 unfold zj0 zkj
 have b:=fun v k hk=>zaiq N (by omega) v k hk
 rw [show zcq N 0 1=_ from b 0 1 (by decide),show zcq N 0 2=_ from b 0 2 (by decide),show zcq N 1 6=_ from b 1 6 (by decide),show zcq N (off:Int) 6=_ from b off 6 (by decide)]
 simp only [obs]
 unfold zbj
 obtain⟨n,rfl⟩:∃n,N=n+10:=⟨N-10,by omega⟩
 have c1:zi (zbj.r0 (n+10)) (n+10) ([zb4 0 1,zb4 0 1,zb4 0 2,zb4 1 6,zb4 off 6],0,[zb4 0 1,zb4 0 1,zb4 0 2,zb4 1 6,zb4 off 6],(([zb4 0 1,zb4 0 1,zb4 0 2,zb4 1 6,zb4 off 6]:List (List Int)).length:Int),0)=some ([zb4 0 1,zb4 0 1,zb4 0 2,zb4 1 6,zb4 off 6],16,[zb4 0 1,zb4 0 1,zb4 0 2,zb4 1 6,zb4 off 6],5,5):=by rfl
 rw [c1]
 simp only [obs]
 have c2:zkc () 16=some []:=by rfl
 rw [c2]
 simp only [obs]
 have c3:zi (zbj.r2 (n+10)) (n+10) ([],[zb4 0 1,zb4 0 1,zb4 0 2,zb4 1 6,zb4 off 6],(([zb4 0 1,zb4 0 1,zb4 0 2,zb4 1 6,zb4 off 6]:List (List Int)).length:Int),0)=some ((((([]++zb4 0 1)++zb4 0 1)++zb4 0 2)++zb4 1 6)++zb4 off 6,[zb4 0 1,zb4 0 1,zb4 0 2,zb4 1 6,zb4 off 6],5,5):=by rfl
 rw [c3]
 rfl
theorem zahw (off:Nat) (h:off≤16777215):zwn (zkj off)=0:=by
 unfold zwn zkj
 rw [show inB (off:Int) 0 16777215=true from zay.2 ⟨by omega,by omega⟩]
 rfl
theorem zvb (N:Nat) (hN:2000<N) {s:Storage} (h:zjh s) {a:Int} (ha:ze7 s a=true) (off:Nat) (ho:off≤16777215):zcs N s a (zkj off)=some (stV s a.toNat off,0):=by
 obtain⟨a1,a2,a3⟩:=zmu ha
 have hl:=h.le
 have hq:=h.quad
 have ht:=h.tags
 have hA:a=((a.toNat:Nat):Int):=by omega
 have hw:a.toNat+(pbV off).size≤s.Bytes.size:=by rw [znd];omega
 unfold zcs zi0
 rw [(zvd N hN s).1,h.err]
 simp only [obs,bsf,cfa]
 rw [dcf (show ¬a<0 by omega),dcf (show ¬a≥(s.Bytes.size:Int)by omega),tme a1,a2]
 simp only [bsf,cfa,obs]
 rw [z3r,zahw off ho]
 simp only [obs,bsf,cfa]
 rw [zaac N (by omega) off ho]
 simp only [obs,eS]
 have hp:=zab1 h hw (by rw [znd];omega)
 rw [←hA]at hp
 rw [hp]
 simp only [obs]
 have ed:w6 (a.tdiv 16)=((a.toNat/16:Nat):Int):=by
  rw [tde a1,w6e];omega
 have hlen:(wrV s a.toNat (pbV off)).Tags.length=s.Tags.length:=z9v _ _ _
 rw [ed,ifp,ifp (by rw [hlen];omega),itn,lge (by rw [hlen];omega)]
 rfl
def ze9 (l:List Int):Int:=l.foldl (fun n d=>n*10+d) 0
theorem zrw (l:List Int) (x:Int):ze9 (l++[x])=ze9 l*10+x:=by
 unfold ze9;rw [List.foldl_append];rfl
theorem zzp:∀(l r:List Int),l=r.reverse→(∀d∈l,0≤d∧d≤15)→0≤ze9 l∧ze9 l≤2*(10^l.length:Nat)-2:=by
 intro l r
 induction r generalizing l with
 | nil=>intro h _;subst h;decide
 | cons x r ih=>
  intro h hd;rw [List.reverse_cons]at h;subst h;have h1:=ih _ rfl fun d hd'=>hd d (List.mem_append_left _ hd');have h2:=hd x (List.mem_append_right _ List.mem_cons_self);rw [zrw,lna,lns,Nat.pow_succ];omega
def zkt (l:List UInt8):List Int:=l.flatMap fun b=>[((b.toNat/16:Nat):Int),((b.toNat%16:Nat):Int)]
def zrg (l:List UInt8):List Int:=l.map fun b=>((b.toNat%16:Nat):Int)
def zng (l:List UInt8):List Int:=zrg l++[(((l.getD (l.length-1) 0).toNat/16:Nat):Int)]
def zri (l:List Int) (len:Int) (i:Nat):Bool:=decide (l.getD i 0>9)||(decide (l.getD i 0>0)&&decide ((i:Int)<(l.length:Int)-1-len))
def zts (l:List Int):Int:=l.getD (l.length-1) 0
def z3d (l:List Int) (len:Int):Option Int:=
 if(List.range (l.length-1)).any (zri l len)=true∨zts l<10 then none
 else some (if zts l=11∨zts l=13 then-ze9 (l.take (l.length-1))else ze9 (l.take (l.length-1)))
def zm0 (l:List UInt8):Int:=if 128≤(l.getD 0 0).toNat then(beV l:Int)-(256^l.length:Nat)else(beV l:Int)
def zlk (t:DataType) (b:ByteArray):Option Int:=
 if t.Kind=3 then(if-((10^t.Length.toNat:Nat):Int)<zm0 (bl b)∧zm0 (bl b)<((10^t.Length.toNat:Nat):Int)then some (zm0 (bl b))else none)
 else z3d (if t.Kind=1 then zkt (bl b)else zng (bl b)) t.Length
theorem zv4 (l:List UInt8):(zkt l).length=2*l.length:=by
 unfold zkt
 induction l with
 | nil=>rfl
 | cons x l ih=>simp only [List.flatMap_cons,lna,lnc,ln0,ih];omega
theorem zs5 {l:List UInt8}:(∀d∈zkt l,0≤d∧d≤15)∧(∀d∈zng l,0≤d∧d≤15):=by
 constructor
 · intro d hd;obtain⟨b,_,hb⟩:=List.mem_flatMap.1 hd;have:=b.toNat_lt;rcases List.mem_cons.1 hb with rfl|hb
   · omega
   · rcases List.mem_cons.1 hb with rfl|hb
     · omega
     · cases hb
 · intro d hd;rcases List.mem_append.1 hd with hd|hd
   · obtain⟨b,_,rfl⟩:=List.mem_map.1 hd;omega
   · rcases List.mem_cons.1 hd with rfl|hd
     · have:=(l.getD (l.length-1) 0).toNat_lt;omega
     · cases hd
theorem zaf2 (x:UInt8):zg .u8 (x.toNat:Int) 15=((x.toNat%16:Nat):Int):=by
 have hx:=x.toNat_lt
 unfold zg
 have e:(BitVec.ofInt IntKind.u8.bits (x.toNat:Int)&&&BitVec.ofInt IntKind.u8.bits 15).toNat=x.toNat%16:=by
  show(BitVec.ofInt 8 (x.toNat:Int)&&&BitVec.ofInt 8 ((15:Nat):Int)).toNat=_;rw [BitVec.toNat_and,BitVec.ofInt_natCast,BitVec.ofInt_natCast,BitVec.toNat_ofNat,BitVec.toNat_ofNat,mel (by omega),mel (by omega)];exact Nat.and_two_pow_sub_one_eq_mod _ 4
 rw [e]
 exact zuh (by omega) (by omega)
theorem zac8 (x:UInt8):((x.toNat:Int).fdiv (2^(min (4:Int).toNat 8)))=((x.toNat/16:Nat):Int):=zwh x.toNat 16
def zxz (n:Nat):List Int:=(List.range n).flatMap fun(i:Nat)=>[(i:Int),(i:Int)]
def zvw (n:Nat):List Int:=(List.range n).map fun(i:Nat)=>(i:Int)
theorem z6f (n:Nat):(zxz n).length=2*n:=by
 unfold zxz
 induction n with
 | zero=>rfl
 | succ n ih=>rw [List.range_succ,List.flatMap_append,lna,ih];simp;omega
theorem zacw (N:Nat) (hN:2000<N) (t:DataType) (hk:t.Kind=1∨t.Kind=2) (b:ByteArray) (hb:0<b.size) (hb2:b.size≤1000):
 ∃pl,zbr N t b=some (if t.Kind=1 then zkt (bl b)else zng (bl b),pl)∧pl.length=(if t.Kind=1 then zkt (bl b)else zng (bl b)).length:=by
 unfold zbr
 rcases hk with hk|hk
 · have:=zdb (f:=zbr.r0 N) (fun i=>(b,zkt ((bl b).take i),zxz i,(b.size:Int),(i:Int),t)) b.size
    (fun i hi=>by
     obtain⟨x,hx⟩:∃x,(bl b)[i]?=some x:=zqv (by rw [zcy];exact hi);simp only [zbr.r0,zbr.b0,dct (show(i:Int)<(b.size:Int)by omega),ctr,zos,hx,obs,hk,bst,zac8,zaf2];have hl:=zv4 ((bl b).take i);rw [lnt,zcy]at hl;rw [zds (by rw [hl];simp only [lnc,ln0];omega),zds (by rw [z6f];simp only [lnc,ln0];omega)];simp only [ctr];rw [w6e,zjt _ _ hx];have e1:zkt ((bl b).take i++[x])=zkt ((bl b).take i)++[((x.toNat/16:Nat):Int),((x.toNat%16:Nat):Int)]:=by
      unfold zkt;rw [List.flatMap_append];rfl
     have e2:zxz (i+1)=zxz i++[(i:Int),(i:Int)]:=by
      unfold zxz;rw [List.range_succ,List.flatMap_append];rfl
     rw [e1,e2];rfl)
    (by simp only [zbr.r0,zbr.b0,dcf (show ¬(b.size:Int)<(b.size:Int)by omega),cfa]) (N:=N) (by omega)
   simp only [List.take_zero,nc0]at this;rw [show zkt []=[]from rfl,show zxz 0=[]from rfl]at this;rw [this];simp only [obs,hk,if_true];refine⟨zxz b.size,?_,by rw [z6f,zv4,zcy]⟩;rw [show((1:Int)==2)=false from rfl,cfa,←zcy,List.take_length]
 · have:=zdb (f:=zbr.r0 N) (fun i=>(b,zrg ((bl b).take i),zvw i,(b.size:Int),(i:Int),t)) b.size
    (fun i hi=>by
     obtain⟨x,hx⟩:∃x,(bl b)[i]?=some x:=zqv (by rw [zcy];exact hi);simp only [zbr.r0,zbr.b0,dct (show(i:Int)<(b.size:Int)by omega),ctr,zos,hx,obs,hk,show((2:Int)==1)=false from rfl,cfa,zaf2];have hl:(zrg ((bl b).take i)).length=i:=by unfold zrg;rw [lnm,lnt,zcy];omega
     have hl2:(zvw i).length=i:=by simp [zvw]
     rw [zds (by rw [hl];simp only [lnc,ln0];omega),zds (by rw [hl2];simp only [lnc,ln0];omega)];simp only [ctr];rw [w6e,zjt _ _ hx];have e1:zrg ((bl b).take i++[x])=zrg ((bl b).take i)++[((x.toNat%16:Nat):Int)]:=by
      unfold zrg;rw [List.map_append];rfl
     have e2:zvw (i+1)=zvw i++[(i:Int)]:=by
      unfold zvw;rw [List.range_succ,List.map_append];rfl
     rw [e1,e2];rfl)
    (by simp only [zbr.r0,zbr.b0,dcf (show ¬(b.size:Int)<(b.size:Int)by omega),cfa]) (N:=N) (by omega)
   simp only [List.take_zero,nc0]at this;rw [show zrg []=[]from rfl,show zvw 0=[]from rfl]at this;rw [this];have hx:(bl b)[b.size-1]?=some ((bl b).getD (b.size-1) 0):=z3b (by rw [zcy];omega);have hl:(zrg (bl b)).length=b.size:=by unfold zrg;rw [lnm,zcy]
   have hl2:(zvw b.size).length=b.size:=by simp [zvw]
   simp only [obs,hk,bst,ctr];rw [←zcy,List.take_length,zcy,w6e,show(b.size:Int)-1=((b.size-1:Nat):Int)by omega,zos,hx];simp only [obs,zac8];rw [zds (by rw [hl];simp only [lnc,ln0];omega),zds (by rw [hl2];simp only [lnc,ln0];omega)];simp only [ctr];rw [ifn];refine⟨_,rfl,?_⟩;unfold zng;rw [lna,lna,hl,hl2];rfl
theorem zaa0 (N:Nat) (hN:2000<N) (t:DataType) (hk:t.Kind=1∨t.Kind=2) (b:ByteArray) (hb:0<b.size) (hb2:(if t.Kind=1 then zkt (bl b)else zng (bl b)).length≤17) (hb3:b.size≤16) (hlen:0≤t.Length∧t.Length≤15):
 ∃n a e,zcg N t b=some (n,a,e)∧(match zlk t b with|some v=>n=v∧e=0|none=>e≠0):=by
 obtain⟨pl,h1,h2⟩:=zacw N hN t hk b hb (by omega)
 have hr:∀d∈(if t.Kind=1 then zkt (bl b)else zng (bl b)),0≤d∧d≤15:=by
  split
  · exact zs5.1
  · exact zs5.2
 have hpos:0<(if t.Kind=1 then zkt (bl b)else zng (bl b)).length:=by
  split
  · rw [zv4,zcy];omega
  · unfold zng;rw [lna,lns];omega
 have hd:zlk t b=z3d (if t.Kind=1 then zkt (bl b)else zng (bl b)) t.Length:=by
  unfold zlk;rw [ifn]
 rw [hd]
 unfold zcg
 rw [h1]
 simp only [obs]
 generalize (if t.Kind=1 then zkt (bl b)else zng (bl b))=l at*
 have hi2:w6 ((l.length:Int)-1)=((l.length-1:Nat):Int):=by rw [w6e];omega
 rw [hi2,ifp,ifp]
 rw [show(0:Int).toNat=0 from rfl,dr0,itn]
 have hlt:(l.take (l.length-1)).length=l.length-1:=by rw [lnt];omega
 have lp:=zcm (f:=zcg.r0 N) (fun i=>(l,pl,((l.length-1:Nat):Int),ze9 (l.take i),l.take (l.length-1),((l.length-1:Nat):Int),(i:Int),t))
  (fun i=>if zri l t.Length i=true then some ((0:Int),pl.getD i 0,(21:Int))else none) (l.length-1)
  (fun i hi=>by
   have hx:l[i]?=some (l.getD i 0):=by rw [gdd,lge (by omega)];rfl
   have hx2:(l.take (l.length-1))[i]?=some (l.getD i 0):=by rw [List.getElem?_take,ifp hi,hx]
   have hp:pl[i]?=some (pl.getD i 0):=by rw [gdd,lge (by omega)];rfl
   have hxr:=hr (l.getD i 0) (lmg hx);have hf:=zzp (l.take i) _ (List.reverse_reverse _).symm fun d hd=>hr d (List.mem_of_mem_take hd);have hpow:10^(l.take i).length≤10^16:=zhy (by rw [lnt];omega);simp only [zcg.r0,zcg.b0,dct (show(i:Int)<((l.length-1:Nat):Int)by omega),ctr,zau,hx2,hp,obs];rw [w6e (n:=((l.length-1:Nat):Int)-t.Length),w6e (n:=(i:Int)+1),w6e (n:=l.getD i 0),w6e (n:=ze9 (l.take i)*10),w6e];have e:(cond (decide (l.getD i 0>9)) (some true) ((cond (decide (l.getD i 0>0)) (some (decide ((i:Int)<((l.length-1:Nat):Int)-t.Length))) (some false)).bind fun g1002=>some g1002))=some (zri l t.Length i):=by
    unfold zri;rw [show((l.length-1:Nat):Int)=(l.length:Int)-1 by omega];cases decide (l.getD i 0>9)<;>cases decide (l.getD i 0>0)<;>rfl
   rw [e];simp only [obs];rw [zjt l i hx,zrw];cases zri l t.Length i with
   | true=>rfl
   | false=>simp)
  (by simp only [zcg.r0,zcg.b0,dcf (show ¬((l.length-1:Nat):Int)<((l.length-1:Nat):Int)by omega),cfa]) (N:=N) (by omega)
 simp only [List.take_zero,nc0]at lp
 rw [show ze9 []=0 from rfl]at lp
 rw [hlt,lp]
 simp only [obs]
 have hany:(List.range (l.length-1)).any (zri l t.Length)=((List.range (l.length-1)).findSome? (fun i=>if zri l t.Length i=true then some ((0:Int),pl.getD i 0,(21:Int))else none)).isSome:=by
  rw [Bool.eq_iff_iff,List.any_eq_true,List.findSome?_isSome_iff];constructor
  · rintro ⟨x,hx,hb⟩
    exact⟨x,hx,by rw [ifp hb];rfl⟩
  · rintro ⟨x,hx,hb⟩
    refine⟨x,hx,?_⟩;split at hb
    · assumption
    · cases hb
 unfold z3d
 rw [hany]
 cases hf:(List.range (l.length-1)).findSome? (fun i=>if zri l t.Length i=true then some ((0:Int),pl.getD i 0,(21:Int))else none)with
 | some r=>
  obtain⟨i,_,hi⟩:=eof hf;split at hi
  · cases hi;exact⟨_,_,_,rfl,by simp⟩
  · cases hi
 | none=>
  have hx:l[l.length-1]?=some (zts l):=by unfold zts;rw [gdd,lge (by omega)];rfl
  have hp:pl[l.length-1]?=some (pl.getD (l.length-1) 0):=by rw [gdd,lge (by omega)];rfl
  have hb:=zzp (l.take (l.length-1)) _ (List.reverse_reverse _).symm fun d hd=>hr d (List.mem_of_mem_take hd);have hpow:10^(l.take (l.length-1)).length≤10^16:=zhy (by omega);simp only [zbq,zau,hx,hp,obs,Option.isSome_none,Bool.false_eq_true,false_or]
  by_cases hs:zts l<10
  · rw [dct hs,ifp hs];exact⟨_,_,_,rfl,by decide⟩
  · rw [dcf hs,ifn hs,cfa,w6e,zbx,zbx]
    by_cases h11:zts l=11
    · rw [dct h11,ifp (.inl h11)];exact⟨_,_,_,rfl,by omega,rfl⟩
    · rw [dcf h11]
      by_cases h13:zts l=13
      · rw [dct h13,ifp (.inr h13)];exact⟨_,_,_,rfl,by omega,rfl⟩
      · rw [dcf h13,ifn];exact⟨_,_,_,rfl,rfl,rfl⟩
theorem zaet (N:Nat) (hN:100<N) (k:Nat) (hk:k≤18):zdi N (k:Int)=some ((10^k:Nat):Int):=by
 unfold zdi
 have:=zdb (f:=zdi.r0 N) (fun i=>(((10^i:Nat):Int),(k:Int),(i:Int))) k
  (fun i hi=>by
   have:10^(i+1)≤10^18:=zhy (by omega);rw [Nat.pow_succ]at this;simp only [zdi.r0,zdi.b0,dct (show(i:Int)<(k:Int)by omega),ctr];rw [w6e (n:=((10^i:Nat):Int)*10),w6e,Nat.pow_succ];simp only [Int.natCast_add,Int.natCast_mul,Int.natCast_one];rfl)
  (by simp only [zdi.r0,zdi.b0,dcf (show ¬(k:Int)<(k:Int)by omega),cfa]) (N:=N) (by omega)
 simp only [Nat.pow_zero,nc0]at this
 rw [ifn,show(1:Int)=((1:Nat):Int)from rfl,this]
 rfl
theorem zw1 (N:Nat) (hN:100<N) {t:DataType} (ht:zi5 t) (n:Int):zc9 N t ⟨n,⟨#[]⟩⟩=some (if-((10^t.Length.toNat:Nat):Int)<n∧n<((10^t.Length.toNat:Nat):Int)then 0 else 19):=by
 have f2:∀a b:Int,zab N [a,b]=some (zcu [a,b]):=fun a b=>zqc N _ (by simp;omega) (by simp)
 obtain⟨⟨l1,l2⟩,l3,l4⟩:=zhz ht
 have hp:=zaet N hN t.Length.toNat (by omega)
 rw [Int.toNat_of_nonneg (by omega)]at hp
 have hp2:10^t.Length.toNat≤10^15:=zhy (by omega)
 have hp3:=zi3 t.Length.toNat
 obtain⟨h0,h1,h2⟩:=ht
 unfold zc9
 rw [znw N (by omega),h0,zbx,zbx,dcf (show ¬t.Kind=4 by omega),dcf (show ¬t.Kind=0 by omega)]
 simp only [zqd,cfa,obs,f2,show zcu [0,0]=0 from rfl,bsf]
 rw [hp]
 simp only [obs,bst,bnt,cfa,z4y,zqd]
 generalize 10^t.Length.toNat=P at*
 rw [w6e (n:=(P:Int)-1),w6e]
 by_cases h: -(P:Int)<n∧n<(P:Int)
 · rw [ifp h,show inB n (0-((P:Int)-1)) ((P:Int)-1)=true from zay.2 ⟨by omega,by omega⟩];rfl
 · rw [ifn h,show inB n (0-((P:Int)-1)) ((P:Int)-1)=false by
    cases hb:inB n (0-((P:Int)-1)) ((P:Int)-1)with
    | false=>rfl
    | true=>have:=zay.1 hb;omega]
   rfl
theorem zadp {l:List UInt8} (h:l≠[]) (x:UInt8):zm0 (l++[x])=zm0 l*256+x.toNat:=by
 cases l with
 | nil=>exact absurd rfl h
 | cons y l=>
  unfold zm0;rw [List.cons_append,List.getD_cons_zero,List.getD_cons_zero,←List.cons_append,zws,lna,lns,Nat.pow_succ];split
  · simp only [Int.natCast_add,Int.natCast_mul];omega
  · simp only [Int.natCast_add,Int.natCast_mul];omega
theorem zabm {l:List UInt8} (h:l.length≤4): -4294967296≤zm0 l∧zm0 l<4294967296:=by
 have h1:=zadu l
 have h2:256^l.length≤256^4:=Nat.pow_le_pow_right (by decide) h
 unfold zm0
 split<;>omega
theorem zacy (N:Nat) (hN:100<N) (b:ByteArray) (h0:0<b.size) (h4:b.size≤4):zco N b=some (zm0 (bl b)):=by
 obtain⟨x0,hx0⟩:∃x,(bl b)[0]?=some x:=zqv (by rw [zcy];exact h0)
 have i0:znh b 0=some x0:=by rw [show(0:Int)=((0:Nat):Int)from rfl,zos,hx0]
 have hL:zjc (b.extract (1:Int).toNat b.size)=((bl b).drop 1).map fun x=>(x.toNat:Int):=by
  unfold zjc;have:=zgp b 1 b.size;unfold bl at this⊢;rw [show(1:Int).toNat=1 from rfl,this]
  congr 2
  exact List.take_of_length_le (Nat.le_of_eq rfl)
 have hlen:(((bl b).drop 1).map fun x=>(x.toNat:Int)).length=b.size-1:=by rw [lnm,List.length_drop,zcy]
 have hx00:=x0.toNat_lt
 unfold zco
 rw [i0]
 simp only [obs]
 rw [ifp,hL,hlen]
 have hw:w6 (IntKind.wrap .i8 (x0.toNat:Int))=zm0 ((bl b).take 1):=by
  have e:(bl b).take 1=[x0]:=by rw [zjt _ _ hx0];rfl
  have e8:(2:Int)^(IntKind.i8.bits)=256:=by decide
  have e8':(2:Int)^(IntKind.i8.bits-1)=128:=by decide
  have:IntKind.wrap .i8 (x0.toNat:Int)=if 128≤x0.toNat then(x0.toNat:Int)-256 else x0.toNat:=by
   unfold IntKind.wrap;simp only [e8,e8',show IntKind.i8.signed=true from rfl,Bool.true_and,decide_eq_true_eq,ge_iff_le]
   repeat' split
   all_goals omega
  rw [this,e,w6e (by split<;>omega) (by split<;>omega)];unfold zm0;rw [List.getD_cons_zero,show beV [x0]=x0.toNat by unfold beV;simp];rfl
 rw [hw]
 have:=zdb (f:=zco.r0 N) (fun i=>(zm0 ((bl b).take (i+1)),((bl b).drop 1).map (fun x=>(x.toNat:Int)),((b.size-1:Nat):Int),(i:Int))) (b.size-1)
  (fun i hi=>by
   obtain⟨x,hx⟩:∃x,(bl b)[i+1]?=some x:=zqv (by rw [zcy];omega);have hm:(((bl b).drop 1).map (fun x=>(x.toNat:Int)))[i]?=some (x.toNat:Int):=by
    rw [List.getElem?_map,List.getElem?_drop,Nat.add_comm 1 i,hx];rfl
   have hb:=zabm (l:=(bl b).take (i+1)) (by rw [lnt];omega);have hxl:=x.toNat_lt;simp only [zco.r0,zco.b0,dct (show(i:Int)<((b.size-1:Nat):Int)by omega),ctr,hlen];rw [ifp,ifp,itn,hm];simp only [obs];rw [show(2:Int)^(min (8:Int).toNat 64)=256 from rfl,w6e (n:=zm0 ((bl b).take (i+1))*256),w6e (n:=(x.toNat:Int)),w6e (n:=(i:Int)+1),or8 _ _ (by omega) (by omega) hxl,zjt _ _ hx,zadp]
   · rfl
   · intro h;have:=congrArg List.length h;rw [lnt,zcy]at this;simp only [ln0]at this;omega)
  (by simp only [zco.r0,zco.b0,dcf (show ¬((b.size-1:Nat):Int)<((b.size-1:Nat):Int)by omega),cfa]) (N:=N) (by omega)
 simp only [Nat.zero_add,nc0]at this
 rw [this,show b.size-1+1=(bl b).length by rw [zcy];omega,List.take_length]
 rfl
theorem zyw {t:DataType} (ht:zi5 t):szE t=(if t.Kind=1 then t.Length/2+1 else if t.Kind=3 then(if t.Length=9 then 4 else 2)else t.Length):=by
 obtain⟨_,h1,h2⟩:=ht
 unfold szE
 split
 · rfl
 · split
   · rfl
   · rw [ifn]
theorem z31 (N:Nat) (hN:2000<N) {t:DataType} (ht:zi5 t) {b:ByteArray} (hb:(b.size:Int)=szE t):
 ∃v a e,zij N t b=some (v,a,e)∧(match zlk t b with|some n=>v.N=n∧e=0|none=>e≠0):=by
 have f2:∀a b:Int,zab N [a,b]=some (zcu [a,b]):=fun a b=>zqc N _ (by simp;omega) (by simp)
 obtain⟨⟨l1,l2⟩,l3,l4⟩:=zhz ht
 have hsz:=zyw ht
 have ht':=ht
 obtain⟨h0,h1,h2⟩:=ht'
 unfold zij
 rw [znw N (by omega),h0,zbx,zbx,zbx,dcf (show ¬t.Kind=4 by omega),dcf (show ¬t.Kind=0 by omega)]
 simp only [zqd,cfa,obs,f2,show zcu [0,0]=0 from rfl,bst,ctr]
 rw [zy4 h0]
 simp only [obs]
 rw [hb]
 simp only [bsf,cfa,eD]
 by_cases hk:t.Kind=3
 · rw [dct hk,ctr];have hs4:b.size≤4∧0<b.size:=by
    rw [hsz,ifn,ifp hk]at hb;split at hb<;>omega
   rw [zacy N (by omega) b hs4.2 hs4.1];simp only [obs];rw [zw1 N (by omega) ht];simp only [obs];unfold zlk;rw [ifp hk]
   by_cases hr: -((10^t.Length.toNat:Nat):Int)<zm0 (bl b)∧zm0 (bl b)<((10^t.Length.toNat:Nat):Int)
   · rw [ifp hr,ifp hr];exact⟨_,_,_,rfl,rfl,rfl⟩
   · rw [ifn hr,ifn hr];exact⟨_,_,_,rfl,by decide⟩
 · rw [dcf hk,cfa];have hs:0<b.size∧b.size≤15∧(t.Kind=1→b.size≤8):=by
    rw [hsz]at hb
    by_cases h1:t.Kind=1
    · rw [ifp h1]at hb;omega
    · rw [ifn h1,ifn hk]at hb;omega
   have hn:(if t.Kind=1 then zkt (bl b)else zng (bl b)).length≤17:=by
    split
    · rename_i hk1;have:=hs.2.2 hk1;rw [zv4,zcy];omega
    · unfold zng zrg;rw [lna,lnm,lns,zcy];omega
   obtain⟨n,a,e,g1,g2⟩:=zaa0 N hN t (by omega) b hs.1 hn (by omega) ⟨by omega,l2⟩;rw [g1];exact⟨_,_,_,rfl,g2⟩
def znl (n len:Nat):List Int:=(List.range len).map fun j=>((n/10^(len-1-j)%10:Nat):Int)
theorem zwk (n len:Nat):(znl n len).length=len:=by simp [znl]
theorem zwj {n len:Nat}:∀d∈znl n len,0≤d∧d≤9:=by
 intro d hd
 obtain⟨j,_,rfl⟩:=List.mem_map.1 hd
 omega
def z2m (l:List Int) (neg:Bool):List Int:=(l.take (l.length-1)).map (· +240)++[l.getD (l.length-1) 0+cond neg 208 240]
def zoe:List Int→List Int
 | a::b::l=>(16*a+b)::zoe l
 | _=>[]
def z7o (n:Int) (k:Nat):List Int:=(List.range k).map fun j=>n/256^(k-1-j)%256
def z0l (t:DataType) (n:Int):List Int:=(if t.Length%2=0 then [0]else [])++znl n.natAbs t.Length.toNat++[if n<0 then 13 else 15]
def zou (t:DataType) (n:Int):ByteArray:=
 zhq (if t.Kind=3 then z7o n (szE t).toNat else if t.Kind=2 then z2m (znl n.natAbs t.Length.toNat) (decide (n<0))else zoe (z0l t n))
theorem zacx (N:Nat) (hN:100<N) (n len:Nat) (hn:n≤1000000000000000000) (hl:len≤20):zc2 N (n:Int) (len:Int)=some (znl n len):=by
 unfold zc2
 have:=zdb (f:=zc2.r0 N) (fun i=>(((n/10^i:Nat):Int),zlv (fun e=>((n/10^e%10:Nat):Int)) len i,(len:Int)-1-(i:Int))) len
  (fun i hi=>by
   have hl2:n/10^i≤n:=Nat.div_le_self _ _;have hl:(zlv (fun e=>((n/10^e%10:Nat):Int)) len i).length=len:=z0j _ _ _;have e1:n/10^(i+1)=n/10^i/10:=by rw [Nat.pow_succ,←Nat.div_div_eq_div_mul]
   have e2:(zlv (fun e=>((n/10^e%10:Nat):Int)) len i).set (len-1-i) ((n/10^i%10:Nat):Int)=zlv (fun e=>((n/10^e%10:Nat):Int)) len (i+1):=zxx _ len i hi;rw [e1,←e2];generalize (zlv (fun e=>((n/10^e%10:Nat):Int)) len i)=P at*;generalize n/10^i=q at*;simp only [zc2.r0,zc2.b0,dct (show(len:Int)-1-(i:Int)≥0 by omega),ctr,hl];rw [ifp,ifp];obtain⟨x,hx⟩:∃x,P[((len:Int)-1-(i:Int)).toNat]?=some x:=zqv (by omega);rw [hx];simp only [obs]
   rw [tde,tme,w6e (n:=(q:Int)/10),w6e (n:=(len:Int)-1-(i:Int)-1),zuh (by omega) (by omega),show((len:Int)-1-(i:Int)).toNat=len-1-i by omega,show(q:Int)%10=((q%10:Nat):Int)by omega,show(q:Int)/10=((q/10:Nat):Int)by omega,show(len:Int)-1-(i:Int)-1=(len:Int)-1-((i+1:Nat):Int)by omega])
  (by simp only [zc2.r0,zc2.b0,dcf (show ¬(len:Int)-1-(len:Int)≥0 by omega),cfa]) (N:=N) (by omega)
 rw [ifp,ifp,zds (by omega),ctr,itn,w6e]
 simp only [Nat.pow_zero,Nat.div_one,zxw,nc0,Int.sub_zero,zxy]at this
 rw [this]
 rfl
theorem or4 (x y:Nat) (hx:x<16) (hy:y<16):orI .u8 (IntKind.wrap .u8 ((x:Int)*2^(min (4:Int).toNat 8))) (y:Int)=((16*x+y:Nat):Int):=by
 rw [show(2:Int)^(min (4:Int).toNat 8)=16 from rfl,zuh (by omega) (by omega)]
 unfold orI
 have e:(BitVec.ofInt IntKind.u8.bits ((x:Int)*16)|||BitVec.ofInt IntKind.u8.bits (y:Int)).toNat=16*x+y:=by
  show(BitVec.ofInt 8 ((x:Int)*16)|||BitVec.ofInt 8 (y:Int)).toNat=_;rw [show(x:Int)*16=((16*x:Nat):Int)by omega,BitVec.toNat_or,BitVec.ofInt_natCast,BitVec.ofInt_natCast,BitVec.toNat_ofNat,BitVec.toNat_ofNat,mel (by omega),mel (by omega)];exact(Nat.two_pow_add_eq_or_of_lt (i:=4) (b:=y) hy x).symm
 rw [e]
 exact zuh (by omega) (by omega)
theorem z1y:∀(n:Nat) (l:List Int) (x y:Int),l.length=2*n→zoe (l++[x,y])=zoe l++[16*x+y]
 | 0,l,x,y,h=>by
  obtain rfl:=List.length_eq_zero_iff.1 (by omega:l.length=0);rfl
 | n+1,[],x,y,h=>by simp at h
 | n+1,[a],x,y,h=>by simp at h;omega
 | n+1,a::b::l,x,y,h=>by
  simp only [List.cons_append,zoe];rw [z1y n l x y (by simp only [lnc]at h;omega)]
theorem zx1:∀(n:Nat) (l:List Int),l.length=2*n→(zoe l).length=n
 | 0,l,h=>by
  obtain rfl:=List.length_eq_zero_iff.1 (by omega:l.length=0);rfl
 | n+1,[],h=>by simp at h
 | n+1,[a],h=>by simp at h;omega
 | n+1,a::b::l,h=>by
  simp only [zoe,lnc];rw [zx1 n l (by simp only [lnc]at h;omega)]
theorem zacu (N:Nat) (hN:100<N) (l:List Int) (n:Nat) (hl:l.length=2*n) (hn:n≤20) (hd:∀d∈l,0≤d∧d<16):zb8 N l=some (zhq (zoe l)):=by
 unfold zb8
 have:=zdb (f:=zb8.r0 N) (fun i=>(l,zoe (l.take (2*i)),2*(i:Int))) n
  (fun i hi=>by
   obtain⟨x,hx⟩:∃x,l[2*i]?=some x:=zqv (by omega);obtain⟨y,hy⟩:∃y,l[2*i+1]?=some y:=zqv (by omega);obtain⟨x1,x2⟩:=hd x (lmg hx);obtain⟨y1,y2⟩:=hd y (lmg hy);have hlt:(l.take (2*i)).length=2*i:=by rw [lnt];omega
   simp only [zb8.r0,zb8.b0,dct (show 2*(i:Int)<(l.length:Int)by omega),ctr];rw [w6e (n:=2*(i:Int)+1),w6e (n:=2*(i:Int)+2),show 2*(i:Int)=((2*i:Nat):Int)by omega,show((2*i:Nat):Int)+1=((2*i+1:Nat):Int)by omega,zau,zau,hx,hy];simp only [obs];obtain⟨u,rfl⟩:∃u:Nat,x=(u:Int):=⟨x.toNat,by omega⟩;obtain⟨v,rfl⟩:∃v:Nat,y=(v:Int):=⟨y.toNat,by omega⟩;rw [or4 u v (by omega) (by omega),zds (by rw [zx1 i _ hlt];simp only [lnc,ln0];omega),ctr];rw [show 2*(i+1)=2*i+1+1 by omega,zjt _ _ hy,zjt _ _ hx,List.append_assoc,show([(u:Int)]++[(v:Int)]:List Int)=[(u:Int),(v:Int)]from rfl,z1y i _ _ _ hlt]
   congr 4)
  (by simp only [zb8.r0,zb8.b0,dcf (show ¬2*(n:Int)<(l.length:Int)by omega),cfa]) (N:=N) (by omega)
 simp only [Nat.mul_zero,List.take_zero,nc0,Int.mul_zero]at this
 rw [show zoe []=[]from rfl]at this
 rw [this,obs,←hl,List.take_length]
theorem zagh (f:Int→Int) (l:List Int) (i:Nat) {x:Int} (hx:l[i]?=some x):((l.take i).map f++l.drop i)[i]?=some x∧((l.take i).map f++l.drop i).set i (f x)=(l.take (i+1)).map f++l.drop (i+1):=by
 obtain⟨h1,h2⟩:=gei hx
 have hl:((l.take i).map f).length=i:=by rw [lnm,lnt];omega
 have hd:l.drop i=x::l.drop (i+1):=by rw [List.drop_eq_getElem_cons h1,h2]
 constructor
 · rw [List.getElem?_append_right (by omega),hl,Nat.sub_self,hd];rfl
 · rw [List.set_append_right _ _ (by omega),hl,Nat.sub_self,hd,zjt l i hx,List.map_append,List.append_assoc];rfl
theorem z15 {l:List Int} (h:0<l.length):l=l.take (l.length-1)++[l.getD (l.length-1) 0]:=by
 have hx:l[l.length-1]?=some (l.getD (l.length-1) 0):=by rw [gdd,lge (by omega)];rfl
 have:=zjt l (l.length-1) hx
 rw [show l.length-1+1=l.length by omega,List.take_length]at this
 exact this
theorem zaf6 (z:Int):IntKind.wrap .u8 z=z%256:=by
 have e:(2:Int)^(IntKind.u8.bits)=256:=by decide
 unfold IntKind.wrap
 simp only [e,show IntKind.u8.signed=false from rfl,Bool.false_and]
 simp only [Bool.false_eq_true,if_false]
theorem z06 {l:List Int} (h:0<l.length):l.map (· +240)=z2m l false:=by
 conv=>lhs;rw [z15 h]
 rw [List.map_append]
 rfl
theorem z2l {n:Int} (h1: -9223372036854775807≤n) (h2:n≤9223372036854775807):(if w6 (0-n)>n then w6 (0-n)else n)=((n.natAbs:Nat):Int):=by
 rw [w6e]
 split<;>omega
theorem zvx {t:DataType} (h1:1≤t.Length) (n:Int):(z0l t n).length=2*(t.Length.toNat/2+1)∧∀d∈z0l t n,0≤d∧d<16:=by
 unfold z0l
 constructor
 · rw [lna,lna,zwk,lns];split
   · rw [lns];omega
   · rw [ln0];omega
 · intro d hd;rcases List.mem_append.1 hd with hd|hd
   · rcases List.mem_append.1 hd with hd|hd
     · split at hd
       · rcases List.mem_cons.1 hd with rfl|hd
         · omega
         · cases hd
       · cases hd
     · have:=zwj d hd;omega
   · rcases List.mem_cons.1 hd with rfl|hd
     · split<;>omega
     · cases hd
theorem zaaz (N:Nat) (hN:100<N) {t:DataType} (ht:zi5 t) (n:Int) (hn: -((10^t.Length.toNat:Nat):Int)<n∧n<((10^t.Length.toNat:Nat):Int)):zas N t ⟨n,⟨#[]⟩⟩=some (zou t n):=by
 obtain⟨⟨l1,l2⟩,l3,l4⟩:=zhz ht
 have hp2:10^t.Length.toNat≤10^15:=zhy (by omega)
 have hsz:=zyw ht
 have ht':=ht
 obtain⟨h0,h1,h2⟩:=ht'
 have hd:=zacx N hN n.natAbs t.Length.toNat (by omega) (by omega)
 rw [Int.toNat_of_nonneg (by omega)]at hd
 unfold zas zou
 try simp only [eD]
 rw [z2l (by omega) (by omega),hd]
 simp only [obs]
 have hlen:=zwk n.natAbs t.Length.toNat
 have hrange:=zwj (n:=n.natAbs) (len:=t.Length.toNat)
 have hpac:=zvx (t:=t) l1 n
 have epac:z0l t n=(if t.Length%2=0 then [0]else [])++znl n.natAbs t.Length.toNat++[if n<0 then 13 else 15]:=rfl
 generalize znl n.natAbs t.Length.toNat=d at*
 simp only [zbx]
 by_cases k2:t.Kind=2
 · rw [dct k2,ctr,ifn,ifp k2];have lp:=zdb (f:=zas.r1 N) (fun i=>((d.take i).map (· +240)++d.drop i,(d.length:Int),(i:Int),(⟨n,⟨#[]⟩⟩:Value))) d.length
    (fun i hi=>by
     obtain⟨x,hx⟩:∃x,d[i]?=some x:=zqv hi;obtain⟨e1,e2⟩:=zagh (· +240) d i hx;have hxr:=hrange x (lmg hx);have hl:((d.take i).map (· +240)++d.drop i).length=d.length:=by rw [lna,lnm,lnt,List.length_drop];omega
     simp only [zas.r1,zas.b1,dct (show(i:Int)<(d.length:Int)by omega),ctr,hl];rw [ifp,ifp,itn,e1];simp only [obs];rw [ifp,ifp,zuh (by omega) (by omega),w6e,e2];rfl)
    (by simp only [zas.r1,zas.b1,dcf (show ¬(d.length:Int)<(d.length:Int)by omega),cfa]) (N:=N) (by omega)
   simp only [List.take_zero,nc0,dr0,List.map_nil,List.nil_append,List.take_length,List.drop_length,List.append_nil]at lp;rw [lp];simp only [obs,lnm]
   by_cases hneg:n<0
   · rw [dct hneg,ctr,w6e,ifp,ifp];have hi:(d.length:Int)-1=((d.length-1:Nat):Int):=by omega
     have hx:d[d.length-1]?=some (d.getD (d.length-1) 0):=by rw [gdd,lge (by omega)];rfl
     have hxr:=hrange _ (lmg hx);rw [hi,itn,List.getElem?_map,hx];simp only [Option.map_some,obs];rw [ifp,ifp,zuh (by omega) (by omega)]
     congr 2
     conv=>lhs;rw [show d.map (· +240)=(d.take (d.length-1)).map (· +240)++[d.getD (d.length-1) 0+240]from z06 (by omega)]
     have hl:((d.take (d.length-1)).map (· +240)).length=d.length-1:=by rw [lnm,lnt];omega
     rw [List.set_append_right _ _ (by omega),hl,Nat.sub_self];unfold z2m
     congr 1
     show [_]=[_]
     congr 1
     simp only [ctr];omega
   · rw [dcf hneg,cfa,z06 (by omega)]
 · rw [dcf k2,cfa,ifn (c:=t.Kind=2) k2]
   by_cases k1:t.Kind=1
   · rw [dct k1,ctr,ifn];have pk:=zacu N hN (z0l t n) _ hpac.1 (by omega) hpac.2;have ev:decide ((d.length:Int).tmod 2=0)=decide (t.Length%2=0):=by
      rw [tme];simp only [decide_eq_decide];omega
     rw [ev];rw [epac]at pk⊢
     by_cases hneg:n<0
     · rw [dct hneg,ctr];rw [ifp hneg]at pk⊢
       by_cases he:t.Length%2=0
       · rw [dct he,ctr];rw [ifp he]at pk⊢;rw [zds (by simp only [lnc,ln0];omega),ctr,zds (by simp only [lna,lnc,ln0];omega),ctr,pk];rfl
       · rw [dcf he,cfa];rw [ifn he,List.nil_append]at pk⊢;rw [zds (by simp only [lnc,ln0];omega),ctr,pk];rfl
     · rw [dcf hneg,cfa];rw [ifn hneg]at pk⊢
       by_cases he:t.Length%2=0
       · rw [dct he,ctr];rw [ifp he]at pk⊢;rw [zds (by simp only [lnc,ln0];omega),ctr,zds (by simp only [lna,lnc,ln0];omega),ctr,pk];rfl
       · rw [dcf he,cfa];rw [ifn he,List.nil_append]at pk⊢;rw [zds (by simp only [lnc,ln0];omega),ctr,pk];rfl
   · have k3:t.Kind=3:=by omega
     rw [dcf k1,cfa,dct k3,ctr,ifp k3,zy4 h0];have hs:(szE t).toNat≤4∧0<(szE t).toNat∧szE t=((szE t).toNat:Int):=by
      rw [hsz,ifn k1,ifp k3];split<;>decide
     obtain⟨s1,s2,s3⟩:=hs;generalize (szE t).toNat=k at*;rw [s3];simp only [obs];rw [ifp,ifp,zds (by omega),ctr,itn,lnr,w6e];have lp:=zdb (f:=zas.r3 N) (fun i=>(zlv (fun e=>n/256^e%256) k i,(k:Int)-1-(i:Int),n/256^i)) k
      (fun i hi=>by
       have e2:(zlv (fun e=>n/256^e%256) k i).set (k-1-i) (n/256^i%256)=zlv (fun e=>n/256^e%256) k (i+1):=zxx _ k i hi;have hl:(zlv (fun e=>n/256^e%256) k i).length=k:=z0j _ _ _;have e1:n/256^(i+1)=n/256^i/256:=by rw [Int.pow_succ,Int.ediv_ediv_of_nonneg (Int.le_of_lt (Int.pow_pos (by decide)))]
       rw [e1,←e2];generalize zlv (fun e=>n/256^e%256) k i=P at*;simp only [zas.r3,zas.b3,dct (show(k:Int)-1-(i:Int)≥0 by omega),ctr,hl];rw [ifp,ifp];obtain⟨x,hx⟩:∃x,P[((k:Int)-1-(i:Int)).toNat]?=some x:=zqv (by omega);rw [hx];simp only [obs];rw [zaf6,w6e,show(2:Int)^(min (8:Int).toNat 64)=256 from rfl,Int.fdiv_eq_ediv_of_nonneg _ (by decide),show((k:Int)-1-(i:Int)).toNat=k-1-i by omega,show(k:Int)-1-(i:Int)-1=(k:Int)-1-((i+1:Nat):Int)by omega])
      (by simp only [zas.r3,zas.b3,dcf (show ¬(k:Int)-1-(k:Int)≥0 by omega),cfa]) (N:=N) (by omega)
     simp only [Int.pow_zero,Int.ediv_one,zxw,nc0,Int.sub_zero,zxy]at lp;rw [lp];rfl
theorem z30 (N:Nat) (hN:100<N) {t:DataType} (ht:zi5 t) (n:Int) (hn: -((10^t.Length.toNat:Nat):Int)<n∧n<((10^t.Length.toNat:Nat):Int)):zgk N t ⟨n,⟨#[]⟩⟩=some (zou t n,0):=by
 unfold zgk
 rw [zw1 N hN ht,ifp hn]
 simp only [obs,bsf,cfa,eD]
 rw [zaaz N hN ht n hn]
 rfl
theorem z4e {t:DataType} (ht:zi5 t) (n:Int):((zou t n).size:Int)=szE t:=by
 obtain⟨⟨l1,l2⟩,l3,l4⟩:=zhz ht
 have hsz:=zyw ht
 obtain⟨h0,h1,h2⟩:=ht
 rw [←zcy]
 unfold zou
 rw [zwq,lnm]
 by_cases k3:t.Kind=3
 · rw [ifp k3];unfold z7o;rw [lnm,List.length_range];rw [hsz,ifn,ifp k3];split<;>rfl
 · rw [ifn k3]
   by_cases k2:t.Kind=2
   · rw [ifp k2];unfold z2m;rw [lna,lnm,lnt,zwk,lns,hsz,ifn,ifn k3];omega
   · rw [ifn k2,zx1 _ _ (zvx l1 n).1,hsz,ifp];omega
theorem zae5 (n:Int) (k:Nat) (m:Nat) (h:(m:Int)=n∨(m:Int)=n+(256^k:Nat)):zb4 m k=z7o n k:=by
 unfold zb4 z7o
 refine List.map_congr_left fun j hj=> ?_
 have hjk:=List.mem_range.1 hj
 have hc:(256:Int)^(k-1-j)=((256^(k-1-j):Nat):Int):=by rw [Int.natCast_pow];rfl
 rw [hc]
 rcases h with h|h
 · rw [←h];rfl
 · have hk:(256^k:Nat)=256^(k-1-j)*(256*256^j):=by
    rw [←Nat.pow_succ',←Nat.pow_add];congr 1;omega
   have hp:((256^(k-1-j):Nat):Int)≠0:=by
    have:0<256^(k-1-j):=Nat.pow_pos (by decide);omega
   have e:((m/256^(k-1-j)%256:Nat):Int)=(m:Int)/((256^(k-1-j):Nat):Int)%256:=rfl;rw [e,h,hk,Int.natCast_mul,Int.add_mul_ediv_left _ _ hp,Int.natCast_mul];exact Int.add_mul_emod_self_left _ _ _
theorem zaen (N:Nat) (hN:100<N) {t:DataType} (ht:zi5 t) (n:Int) (hn: -((10^t.Length.toNat:Nat):Int)<n∧n<((10^t.Length.toNat:Nat):Int)):zqp N t ⟨n,⟨#[]⟩⟩=some (zou t n):=by
 unfold zqp
 rw [z30 N hN ht n hn]
 rfl
theorem zacj (N:Nat) (hN:2000<N) {t:DataType} (ht:zi5 t) {b:ByteArray} (hb:(b.size:Int)=szE t):
 ∃v a e,zxr N t b=some (v,a,e)∧(match zlk t b with|some n=>v.N=n∧e=0|none=>e≠0):=z31 N hN ht hb
set_option exponentiation.threshold 3000
theorem z56 (N:Nat) (hN:4000<N) {a b:Number} (ha:zeg a) (hb:zeg b):zmt N a b=some (z6j (zdc a (zaw a b)) (zdc b (zaw a b))):=by
 unfold zmt
 rw [zzm N (by omega) ha hb]
 rfl
theorem zagt (N:Nat) (hN:4000<N) {x:Number} (hx:zeg x) {t:DataType} (ht:zi5 t) (half:Bool):zpg N x t half=some (ziw x t half):=z9c N (by omega) hx ht half
theorem zagu (N:Nat) (hN:4000<N) {op:Int} (hop:0≤op∧op≤4) {a b:Number} (ha:zeg a) (hb:zeg b) {t:DataType} (ht:zi5 t) (half:Bool):zhk N ⟨op,t,half⟩ a b=some (zf5 op a b t half):=z9d N (by omega) hop ha hb ht half
theorem zy0 (N:Nat) (hN:2000<N) {s:Storage} (h:zjh s) {a:Int} (ha:ze7 s a=true):
 zmc N s a=some (match ldV s a with|some o=>(zkj o,0)|none=>(z07,22)):=z84 N hN h ha
theorem zag0 {s:Storage} (h:s.Tags.length≤100000):zg1 s=some s:=by
 unfold zg1 zj6
 rw [zds (by omega)]
 rfl
theorem z51 (N:Nat) (hN:2000<N) {s:Storage} (h:zjh s) {a:Nat} {d:ByteArray} (hd:a+d.size≤s.Bytes.size) (hd0:0<d.size):zht N s (a:Int) d=some (wrV s a d):=by
 unfold zht
 rw [zzz N hN h hd hd0]
 rfl
theorem z0d (N:Nat) (hN:2000<N) {s:Storage} (h:zjh s) {a:Int} (ha:ze7 s a=true) (off:Nat) (ho:off≤16777215):zhu N s a (zkj off)=some (stV s a.toNat off):=by
 unfold zhu
 rw [zvb N hN h ha off ho]
 rfl
def zle (b:ByteArray) (n:Nat):ByteArray:=⟨((bl b).take n++List.replicate (n-b.size) 32).toArray⟩
theorem zq7 (b:ByteArray) (n:Nat):(zle b n).size=n:=by
 show((bl b).take n++List.replicate (n-b.size) 32).length=n
 rw [lna,lnt,lnr,zcy];omega
theorem ztu (c:UInt8):∀n,Lib.repeatL [c] n=List.replicate n c
 | 0=>rfl
 | n+1=>by show c::Lib.repeatL [c] n=_;rw [ztu c n,List.replicate_succ]
theorem z2a (b:ByteArray) (hb:b.size≤5000) (n:Nat) (hn:n≤5000):zee b (n:Int)=some ⟨(bl b++List.replicate (n-b.size) 32).toArray⟩:=by
 have hmax:IntKind.i64.max=9223372036854775807:=by decide
 unfold zee zow
 rw [w6e]
 have e:(if(0:Int)>(n:Int)-(b.size:Int)then 0 else(n:Int)-(b.size:Int))=((n-b.size:Nat):Int):=by split<;>omega
 have hs1:(⟨#[32]⟩:ByteArray).size=1:=rfl
 rw [e,ifp ⟨by omega,by omega,by rw [hs1];omega⟩,obs,itn,ztu,hmax]
 have hs:(⟨(List.replicate (n-b.size) (32:UInt8)).toArray⟩:ByteArray).size=n-b.size:=by
  show(List.replicate (n-b.size) (32:UInt8)).length=_;rw [lnr]
 rw [ifn (by rw [hs];omega)]
 refine congrArg some (znn ?_)
 rw [zl5]
 rfl
theorem z36 (b:ByteArray) (n:Nat):(⟨(bl b++List.replicate (n-b.size) 32).toArray⟩:ByteArray).extract 0 n=zle b n:=by
 refine znn ?_
 rw [zgp,dr0]
 show(bl b++List.replicate (n-b.size) 32).take n=(bl b).take n++List.replicate (n-b.size) 32
 rw [List.take_append,zcy,List.take_replicate,Nat.min_self]
theorem z35 (b:ByteArray) (n:Nat):(⟨(bl b++List.replicate (n-b.size) 32).toArray⟩:ByteArray)=zle b (max b.size n):=by
 refine znn ?_
 show bl b++List.replicate (n-b.size) 32=(bl b).take (max b.size n)++List.replicate (max b.size n-b.size) 32
 rw [List.take_of_length_le (by rw [zcy];omega),show max b.size n-b.size=n-b.size by omega]
def z00 (x y:List UInt8):Int:=if Op.bytesLess x y=true then-1 else if x=y then 0 else 1
theorem z73:∀(x y:List UInt8),x.length=y.length→(match(List.range x.length).find? (fun i=>x.getD i 0 !=y.getD i 0)with|some i=>if x.getD i 0<y.getD i 0 then(-1:Int)else 1|none=>0)=z00 x y
 | [],[],_=>rfl
 | [],_::_,h=>by cases h
 | _::_,[],h=>by cases h
 | a::x,b::y,h=>by
  have ih:=z73 x y (by simpa using h);rw [lnc,List.range_succ_eq_map,List.find?_cons];rw [List.getD_cons_zero,List.getD_cons_zero]
  by_cases hab:a=b
  · subst hab;simp only [bsf];rw [List.find?_map];have e:((fun i=>(a::x).getD i 0 !=(a::y).getD i 0)∘Nat.succ)=fun i=>x.getD i 0 !=y.getD i 0:=by
     funext i
     rfl
    rw [e];have e2:z00 (a::x) (a::y)=z00 x y:=by
     unfold z00;have e3:Op.bytesLess (a::x) (a::y)=Op.bytesLess x y:=by
      show(decide (a<a)||(a==a&&Op.bytesLess x y))=_;rw [dcf (UInt8.lt_irrefl a)];simp
     rw [e3];simp
    rw [e2,←ih];cases(List.range x.length).find? (fun i=>x.getD i 0 !=y.getD i 0)<;>rfl
  · have hne:(a !=b)=true:=by simpa using hab
    rw [hne];simp only [List.getD_cons_zero];unfold z00;have e3:Op.bytesLess (a::x) (b::y)=decide (a<b):=by
     show(decide (a<b)||(a==b&&Op.bytesLess x y))=_;rw [show(a==b)=false from beq_eq_false_iff_ne.2 hab,Bool.false_and,Bool.or_false]
    rw [e3]
    by_cases hlt:a<b
    · rw [ifp hlt,ifp (dct hlt)]
    · rw [ifn hlt,ifn (by rw [dcf hlt];decide),ifn (by intro h;exact hab (List.cons.inj h).1)]
theorem zaj0 {a b:ByteArray} (h:a.size=b.size):Extern.BytealgCompare.cmp a b=z00 (bl a) (bl b):=by
 unfold Extern.BytealgCompare.cmp
 rw [←z73 (bl a) (bl b) (by rw [zcy,zcy,h]),zcy,show min a.size b.size=a.size by omega]
 have g:∀(c:ByteArray) (i:Nat),i<c.size→c[i]! =(bl c).getD i 0:=fun c i hi=>by
  rw [getElem!_pos c i hi,gdd,lge (by rw [zcy];exact hi)];rfl
 have e:(List.range a.size).find? (fun i=>a[i]! !=b[i]!)=(List.range a.size).find? (fun i=>(bl a).getD i 0 !=(bl b).getD i 0):=by
  have key:∀l:List Nat,(∀i∈l,i<a.size)→l.find? (fun i=>a[i]! !=b[i]!)=l.find? (fun i=>(bl a).getD i 0 !=(bl b).getD i 0):=by
   intro l
   induction l with
   | nil=>intro _;rfl
   | cons i l ih=>
    intro hl;have hi:=hl i List.mem_cons_self;rw [List.find?_cons,List.find?_cons,g a i hi,g b i (by omega),ih fun j hj=>hl j (List.mem_cons_of_mem _ hj)]
  exact key _ fun i hi=>List.mem_range.1 hi
 rw [e]
 cases hf:(List.range a.size).find? (fun i=>(bl a).getD i 0 !=(bl b).getD i 0)with
 | none=>simp only [];rw [ifn,ifn]
 | some i=>
  have hi:=List.mem_range.1 (List.mem_of_find?_eq_some hf);simp only [];rw [g a i hi,g b i (by omega)]
def zqz (o:Int):Int:=if o<0 then 1 else if o=0 then 2 else 4
theorem z0u (o:Int):zes o=some (zqz o):=by
 unfold zes zqz
 by_cases h:o<0
 · rw [dct h,ifp h];rfl
 · rw [dcf h,ifn h,cfa]
   by_cases h2:o=0
   · rw [dcf (by omega),ifp h2];rfl
   · rw [dct (by omega),ifn h2];rfl
theorem z54 (o:Int):zk2 o=some (zqz o):=z0u o
def zm8 (a b:ByteArray):Int:=zqz (z00 (bl (zle a (max a.size b.size))) (bl (zle b (max a.size b.size))))
theorem zwb (a b:ByteArray) (ha:a.size≤5000) (hb:b.size≤5000):zdf a b=some (zm8 a b):=by
 unfold zdf zk0 zeq
 rw [z2a a ha b.size hb,z2a b hb a.size ha]
 simp only [obs]
 rw [z35,z35,Nat.max_comm b.size a.size,zaj0 (by rw [zq7,zq7]),z0u]
 rfl
theorem z0c (N:Nat) (hN:10000<N) (a b:ByteArray) (ha:a.size≤5000) (hb:b.size≤5000):zld N a b=some (zm8 a b):=zwb a b ha hb
theorem zair (x:Int) (i:Nat):(x.tdiv (10^i)).tdiv 10=x.tdiv (10^(i+1)):=by
 have key:∀m:Nat,((m:Int).tdiv (10^i)).tdiv 10=(m:Int).tdiv (10^(i+1)):=fun m=>by
  rw [show(10:Int)^i=((10^i:Nat):Int)by rw [Int.natCast_pow];rfl,show(10:Int)^(i+1)=((10^(i+1):Nat):Int)by rw [Int.natCast_pow];rfl,←Int.ofNat_tdiv,←Int.ofNat_tdiv,show(10:Int)=((10:Nat):Int)from rfl,←Int.ofNat_tdiv,Nat.div_div_eq_div_mul,Nat.pow_succ]
 obtain⟨m,rfl|rfl⟩:=Int.eq_nat_or_neg x
 · exact key m
 · rw [Int.neg_tdiv,Int.neg_tdiv,key m,Int.neg_tdiv]
def zfu (x:Number):Int:=x.N.tdiv (10^x.Scale.toNat)
theorem z47 {x:Number} (hx:zeg x): -999999999999999≤zfu x∧zfu x≤999999999999999:=by
 obtain⟨⟨h1,h2⟩,_⟩:=hx
 have h:=Int.natAbs_tdiv_le_natAbs x.N (10^x.Scale.toNat)
 unfold zfu
 omega
theorem z0s (N:Nat) (hN:100<N) {x:Number} (hx:zeg x):zb9 N x=some (zfu x):=by
 have hx':=hx
 obtain⟨⟨h1,h2⟩,h3,h4⟩:=hx'
 unfold zb9
 obtain⟨k,hk⟩:∃k:Nat,x.Scale=(k:Int):=⟨x.Scale.toNat,by omega⟩
 have:=zdb (f:=zb9.r0 N) (fun i=>(x.Scale,(i:Int),(⟨x.N.tdiv (10^i),x.Scale⟩:Number))) k
  (fun i hi=>by
   have hb:=Int.natAbs_tdiv_le_natAbs x.N (10^i);have hb2:=Int.natAbs_tdiv_le_natAbs (x.N.tdiv (10^i)) 10;simp only [zb9.r0,zb9.b0,hk,dct (show(i:Int)<(k:Int)by omega),ctr];rw [w6e (n:=(i:Int)+1),w6e,zair];rfl)
  (by simp only [zb9.r0,zb9.b0,hk,dcf (show ¬(k:Int)<(k:Int)by omega),cfa]) (N:=N) (by omega)
 simp only [nc0,Int.pow_zero,Int.tdiv_one,eN]at this
 rw [this]
 show some (x.N.tdiv (10^k))=some (zfu x)
 unfold zfu
 rw [hk,itn]
theorem z1r (N:Nat) (hN:100<N) {x:Number} (hx:zeg x):zms N x=some (zfu x):=z0s N hN hx
theorem zach (N:Nat) (hN:10000<N) (b:ByteArray) (hb:b.size≤5000) (n:Nat) (hn:n≤5000):ziy N b (n:Int)=some (zle b n):=by
 unfold ziy
 rw [z2a b hb n hn,obs,itn,z36]
def zqi (m scale:Nat):List UInt8:=List.replicate (scale+1-(Lib.decDigits m).length) 48++Lib.decDigits m
def ptT (l:List UInt8) (scale:Nat):List UInt8:=if 0<scale then l.take (l.length-scale)++[46]++l.drop (l.length-scale)else l
def sgT (n:Int) (l:List UInt8):ByteArray:=⟨(if n<0 then [45]++l else l).toArray⟩
def zql (x:Number):ByteArray:=sgT x.N (ptT (zqi x.N.natAbs x.Scale.toNat) x.Scale.toNat)
theorem z60 {x:Number} (h0:0≤x.Scale) (B:ByteArray) (h1:x.Scale<(B.size:Int)) (h2:B.size≤100):
 ((cond (decide (x.Scale>0))
 (if 0≤(w6 ((B.size:Int)-x.Scale))∧(w6 ((B.size:Int)-x.Scale))≤(B.size:Int)then(if 0≤(0:Int)∧(0:Int)≤(w6 ((B.size:Int)-x.Scale))then(if(((B.extract (0:Int).toNat (w6 ((B.size:Int)-x.Scale)).toNat).size+(⟨#[46]⟩:ByteArray).size:Nat):Int)>IntKind.i64.max then none else if 0≤(w6 ((B.size:Int)-x.Scale))∧(w6 ((B.size:Int)-x.Scale))≤(B.size:Int)then(if((((B.extract (0:Int).toNat (w6 ((B.size:Int)-x.Scale)).toNat)++(⟨#[46]⟩:ByteArray)).size+(B.extract (w6 ((B.size:Int)-x.Scale)).toNat B.size).size:Nat):Int)>IntKind.i64.max then none else cond (decide (x.N<0))
 (if(((⟨#[45]⟩:ByteArray).size+(((B.extract (0:Int).toNat (w6 ((B.size:Int)-x.Scale)).toNat)++(⟨#[46]⟩:ByteArray))++(B.extract (w6 ((B.size:Int)-x.Scale)).toNat B.size)).size:Nat):Int)>IntKind.i64.max then none else some (((⟨#[45]⟩:ByteArray)++(((B.extract (0:Int).toNat (w6 ((B.size:Int)-x.Scale)).toNat)++(⟨#[46]⟩:ByteArray))++(B.extract (w6 ((B.size:Int)-x.Scale)).toNat B.size))),0))
 (some ((((B.extract (0:Int).toNat (w6 ((B.size:Int)-x.Scale)).toNat)++(⟨#[46]⟩:ByteArray))++(B.extract (w6 ((B.size:Int)-x.Scale)).toNat B.size)),0)))else none)else none)else none)
 (cond (decide (x.N<0)) (if(((⟨#[45]⟩:ByteArray).size+B.size:Nat):Int)>IntKind.i64.max then none else some (((⟨#[45]⟩:ByteArray)++B),0)) (some (B,0)))):Option (ByteArray × Int))=some (sgT x.N (ptT (bl B) x.Scale.toNat),0):=by
 have hmax:IntKind.i64.max=9223372036854775807:=by decide
 have z1:(⟨#[46]⟩:ByteArray).size=1:=rfl
 have z2:(⟨#[45]⟩:ByteArray).size=1:=rfl
 rw [hmax,w6e]
 obtain⟨k,hk⟩:∃k:Nat,(B.size:Int)-x.Scale=(k:Int):=⟨((B.size:Int)-x.Scale).toNat,by omega⟩
 have hk2:k=B.size-x.Scale.toNat:=by omega
 rw [hk,itn,show(0:Int).toNat=0 from rfl]
 have s1:(B.extract 0 k).size=k:=by rw [zet _ _ _ (by omega) (by omega)];omega
 have s2:(B.extract k B.size).size=B.size-k:=by rw [zet _ _ _ (by omega) (by omega)]
 by_cases hs:x.Scale>0
 · rw [dct hs,ctr,ifp,ifp,ifn (by rw [s1,z1];omega),ifp,ifn (by rw [bsa,s1,z1,s2];omega)];have e:bl ((B.extract 0 k++(⟨#[46]⟩:ByteArray))++B.extract k B.size)=ptT (bl B) x.Scale.toNat:=by
    unfold ptT;rw [zl5,zl5,zgp,zgp,dr0,ifp,←zcy B,List.take_length,zcy,hk2];rfl
   by_cases hn:x.N<0
   · rw [dct hn,ctr,ifn (by rw [bsa,bsa,s1,z1,s2,z2];omega)]
     congr 2
     refine znn ?_;rw [zl5,e];unfold sgT;rw [ifp hn];rfl
   · rw [dcf hn,cfa]
     congr 2
     refine znn ?_;rw [e];unfold sgT;rw [ifn hn];rfl
 · rw [dcf hs,cfa];have e:ptT (bl B) x.Scale.toNat=bl B:=by unfold ptT;rw [ifn]
   rw [e]
   by_cases hn:x.N<0
   · rw [dct hn,ctr,ifn (by rw [z2];omega)]
     congr 2
     refine znn ?_;rw [zl5];unfold sgT;rw [ifp hn];rfl
   · rw [dcf hn,cfa]
     congr 2
     unfold sgT;rw [ifn hn];rfl
theorem z9s (m:Nat):∀k,0<k→m<10^k→(Lib.decDigits m).length≤k∧0<(Lib.decDigits m).length:=by
 induction m using Nat.strongRecOn with
 | _ m ih=>
  intro k hk hm;rw [Lib.decDigits]
  by_cases h:m<10
  · rw [dif_pos h,lns];omega
  · rw [dif_neg h,lna,lns];obtain⟨j,rfl⟩:∃j,k=j+1:=⟨k-1,by omega⟩;rw [Nat.pow_succ]at hm;have hj:0<j:=by
     refine cbc fun h0=> ?_;rw [show j=0 by omega]at hm;omega
    have:=ih (m/10) (by omega) j hj (by omega);omega
theorem z7z (m scale:Nat) (hm:m<10^15) (hs:scale≤15):scale<(zqi m scale).length∧(zqi m scale).length≤16:=by
 have:=z9s m 15 (by decide) hm
 unfold zqi
 rw [lna,lnr]
 omega
theorem z3z {x:Number} (hx:zeg x):zep x=some (zql x,0):=by
 have hx':=hx
 obtain⟨⟨h1,h2⟩,h3,h4⟩:=hx'
 have hmax:IntKind.i64.max=9223372036854775807:=by decide
 have hlen:=z9s x.N.natAbs 15 (by decide) (by omega)
 have hdl:=z7z x.N.natAbs x.Scale.toNat (by omega) (by omega)
 unfold zep
 rw [znf,zqb.2 hx]
 simp only [obs,bsf,cfa]
 rw [z2l (by omega) (by omega)]
 have hi:z08 (((x.N.natAbs:Nat):Int))=some ⟨(Lib.decDigits x.N.natAbs).toArray⟩:=by
  unfold z08 Lib.itoa;rw [ifp ⟨by omega,by omega⟩,ifn,itn]
 rw [hi]
 simp only [obs]
 have hsz:(⟨(Lib.decDigits x.N.natAbs).toArray⟩:ByteArray).size=(Lib.decDigits x.N.natAbs).length:=rfl
 by_cases hle:((Lib.decDigits x.N.natAbs).length:Int)≤x.Scale
 · rw [hsz,dct hle,ctr,w6e (n:=x.Scale+1),w6e];have hr:zow (⟨#[48]⟩:ByteArray) (x.Scale+1-((Lib.decDigits x.N.natAbs).length:Int))=some ⟨(List.replicate (x.Scale.toNat+1-(Lib.decDigits x.N.natAbs).length) 48).toArray⟩:=by
    unfold zow;have hs1:(⟨#[48]⟩:ByteArray).size=1:=rfl;rw [ifp ⟨by omega,by omega,by rw [hs1];omega⟩,ztu,show(x.Scale+1-((Lib.decDigits x.N.natAbs).length:Int)).toNat=x.Scale.toNat+1-(Lib.decDigits x.N.natAbs).length by omega]
   rw [hr];simp only [obs];have hs2:(⟨(List.replicate (x.Scale.toNat+1-(Lib.decDigits x.N.natAbs).length) (48:UInt8)).toArray⟩:ByteArray).size=x.Scale.toNat+1-(Lib.decDigits x.N.natAbs).length:=by
    show(List.replicate (x.Scale.toNat+1-(Lib.decDigits x.N.natAbs).length) (48:UInt8)).length=_;rw [lnr]
   rw [hmax,ifn (by rw [hs2];omega)];have hb:(⟨(List.replicate (x.Scale.toNat+1-(Lib.decDigits x.N.natAbs).length) (48:UInt8)).toArray⟩:ByteArray)++⟨(Lib.decDigits x.N.natAbs).toArray⟩=⟨(zqi x.N.natAbs x.Scale.toNat).toArray⟩:=by
    refine znn ?_;rw [zl5];rfl
   rw [hb];have:=z60 h3 ⟨(zqi x.N.natAbs x.Scale.toNat).toArray⟩ (by show x.Scale<((zqi x.N.natAbs x.Scale.toNat).length:Int);omega) (by show(zqi x.N.natAbs x.Scale.toNat).length≤100;omega);rw [hmax,zam4]at this;unfold zql;exact this
 · rw [hsz,dcf hle,cfa,←hsz];have hb:bl (⟨(Lib.decDigits x.N.natAbs).toArray⟩:ByteArray)=zqi x.N.natAbs x.Scale.toNat:=by
    unfold zqi;rw [show x.Scale.toNat+1-(Lib.decDigits x.N.natAbs).length=0 by omega];rfl
   have:=z60 h3 ⟨(Lib.decDigits x.N.natAbs).toArray⟩ (by rw [hsz];omega) (by rw [hsz];omega);rw [hb]at this;unfold zql;exact this
theorem zagr (N:Nat) (hN:100<N) {x:Number} (hx:zeg x):zrs N x=some (zql x):=by
 unfold zrs
 rw [z3z hx]
 rfl
theorem zaad {x:Number} (hx:zeg x):(zql x).size≤256:=by
 obtain⟨⟨h1,h2⟩,h3,h4⟩:=hx
 have hdl:=z7z x.N.natAbs x.Scale.toNat (by omega) (by omega)
 have hp:(ptT (zqi x.N.natAbs x.Scale.toNat) x.Scale.toNat).length≤17:=by
  unfold ptT;split
  · rw [lna,lna,lnt,List.length_drop,lns];omega
  · omega
 unfold zql sgT
 show(if x.N<0 then [45]++ptT (zqi x.N.natAbs x.Scale.toNat) x.Scale.toNat else ptT (zqi x.N.natAbs x.Scale.toNat) x.Scale.toNat).length≤256
 split
 · rw [lna,lns];omega
 · omega
def zoj (t:DataType) (n:Int):Prop:= -((10^t.Length.toNat:Nat):Int)<n∧n<((10^t.Length.toNat:Nat):Int)
theorem zyd:∀(l:List Int) (a:Int),l.foldl (fun n d=>n*10+d) a=a*10^l.length+ze9 l
 | [],a=>by simp [ze9]
 | x::l,a=>by
  have h1:=zyd l (a*10+x);have h2:=zyd l x;have e:ze9 (x::l)=l.foldl (fun n d=>n*10+d) x:=by simp [ze9]
  rw [List.foldl_cons,h1,e,h2,lnc,Int.pow_succ,Int.add_mul];have:a*10*10^l.length=a*(10^l.length*10):=by rw [Int.mul_assoc,Int.mul_comm 10]
  omega
theorem zyc (a b:List Int):ze9 (a++b)=ze9 a*10^b.length+ze9 b:=by
 unfold ze9
 rw [List.foldl_append,zyd]
 rfl
theorem zt6:∀(l:List Int),(∀d∈l,d=0)→ze9 l=0
 | [],_=>rfl
 | x::l,h=>by
  have e:ze9 (x::l)=ze9 l:=by unfold ze9;rw [List.foldl_cons,h x List.mem_cons_self];rfl
  rw [e];exact zt6 l fun d hd=>h d (List.mem_cons_of_mem _ hd)
theorem z6y:∀(l r:List Int),l=r.reverse→(∀d∈l,0≤d∧d≤9)→0≤ze9 l∧ze9 l<(10^l.length:Nat):=by
 intro l r
 induction r generalizing l with
 | nil=>intro e _;subst e;exact⟨Int.le_refl _,by decide⟩
 | cons x r ih=>
  intro e hd;rw [List.reverse_cons]at e;subst e;have h1:=ih _ rfl fun d hd'=>hd d (List.mem_append_left _ hd');have h2:=hd x (List.mem_append_right _ List.mem_cons_self);rw [zrw,lna,lns,Nat.pow_succ];omega
theorem z71 {t:DataType} (ht:zi5 t) {b:ByteArray} (hb:(b.size:Int)=szE t) {n:Int} (h:zlk t b=some n):zoj t n:=by
 unfold zlk at h
 unfold zoj
 obtain⟨⟨l1,l2⟩,_,_⟩:=zhz ht
 by_cases hk:t.Kind=3
 · rw [ifp hk]at h;split at h
   · rename_i h1;cases h;exact h1
   · cases h
 · rw [ifn hk]at h;have hr:∀d∈(if t.Kind=1 then zkt (bl b)else zng (bl b)),0≤d∧d≤15:=by
    split
    · exact zs5.1
    · exact zs5.2
   generalize (if t.Kind=1 then zkt (bl b)else zng (bl b))=l at h hr;unfold z3d at h;split at h
   · cases h
   · rename_i h1;have h2:∀i,i<l.length-1→zri l t.Length i=false:=fun i hi=>by
      cases hb:zri l t.Length i with
      | false=>rfl
      | true=>exact absurd (.inl (List.any_eq_true.2 ⟨i,by simpa using hi,hb⟩)) h1
     have hg:∀i,i<l.length-1→∃d,(l.take (l.length-1))[i]?=some d∧0≤d∧d≤9∧((i:Int)<(l.length:Int)-1-t.Length→d=0):=fun i hi=>by
      have hx:l[i]?=some l[i]:=lge (by omega);have:=hr _ (List.getElem_mem (show i<l.length by omega));have h3:=h2 i hi;unfold zri at h3;rw [gdd,hx]at h3;simp only [Option.getD_some,Bool.or_eq_false_iff,Bool.and_eq_false_iff,decide_eq_false_iff_not]at h3;refine⟨l[i],by rw [List.getElem?_take,ifp hi,hx],this.1,by omega,fun h4=> ?_⟩;rcases h3.2 with h5|h5<;>omega
     have hB:0≤ze9 (l.take (l.length-1))∧ze9 (l.take (l.length-1))<((10^t.Length.toNat:Nat):Int):=by
      have hlen:(l.take (l.length-1)).length=l.length-1:=by rw [lnt];omega
      generalize l.take (l.length-1)=k at hg hlen;have hk9:∀d∈k,0≤d∧d≤9:=fun d hd=>by
       obtain⟨i,hi,e⟩:=List.getElem_of_mem hd;obtain⟨d',e2,h3,h4,_⟩:=hg i (by omega);rw [lge hi,e]at e2;cases e2;exact⟨h3,h4⟩
      by_cases hle:k.length≤t.Length.toNat
      · have h3:=z6y k k.reverse (by simp) hk9;have h4:10^k.length≤10^t.Length.toNat:=zhy hle;omega
      · have e:k=k.take (k.length-t.Length.toNat)++k.drop (k.length-t.Length.toNat):=(List.take_append_drop _ _).symm;have hz:ze9 (k.take (k.length-t.Length.toNat))=0:=zt6 _ fun d hd=>by
         obtain⟨i,hi,e⟩:=List.getElem_of_mem hd;rw [lnt]at hi;obtain⟨d',e2,_,_,h5⟩:=hg i (by omega);rw [List.getElem_take]at e;rw [lge (by omega),e]at e2;cases e2;exact h5 (by omega)
        have h3:=z6y (k.drop (k.length-t.Length.toNat)) _ (by rw [List.reverse_reverse]) fun d hd=>hk9 d (List.mem_of_mem_drop hd);have h5:(k.drop (k.length-t.Length.toNat)).length=t.Length.toNat:=by rw [List.length_drop];omega
        rw [h5]at h3;rw [e,zyc,hz,Int.zero_mul,Int.zero_add];exact h3
     split at h<;>cases h<;>omega
structure InsV (m:zK) (c:zH) (x:zA) (u:zR):Prop where
 r:u.R=true→0≤x.R∧x.R<m.Registers
 a:u.A=true→0≤x.A∧x.A<m.Registers
 b:u.B=true→0≤x.B∧x.B<m.Registers
 ty1:u.zF=1→zi5 x.zF
 ty2:u.zF=2→zce x.zF=0∧x.zF.Kind=0
 ty3:u.zF=3→zce x.zF=0
 se1:u.Second=1→zi5 x.Second
 se2:u.Second=2→zce x.Second=0∧x.Second.Kind=0
 tg:u.Target=true→0≤x.Target∧x.Target<(c.zB.length:Int)
 ma:u.Mask=true→1≤x.Mask∧x.Mask≤7
 pt:u.Pointer=true→ze7 c.Storage x.Pointer=true
 sr:u.Source=true→ze7 c.Storage x.Source=true
 pl:u.Place=true→zc8 c.Storage x.Place (szE (zd4 x))=true
 fr:u.From=true→zc8 c.Storage x.From (szE x.Second)=true
 ca:u.zM=true→0≤x.zM∧x.zM≤4
 nu:zeg x.Number
 tx:x.Text.size≤256
 ot:x.Other.size≤256
 is:x.zO=true→x.Op=4
theorem zafm {t:DataType} (h:zd5 t 1=0):zi5 t:=by
 unfold zd5 at h
 rw [ifn (by decide)]at h
 by_cases h0:zce t=0
 · rw [ifp h0]at h;split at h
   · cases h
   · rename_i h1;refine⟨h0,?_⟩;refine cbc fun h2=>h1 (.inl ⟨rfl,h2⟩)
 · rw [ifn h0]at h;exact absurd h h0
theorem zafl {t:DataType} (h:zd5 t 2=0):zce t=0∧t.Kind=0:=by
 unfold zd5 at h
 rw [ifn (by decide)]at h
 by_cases h0:zce t=0
 · rw [ifp h0]at h;split at h
   · cases h
   · rename_i h1;refine⟨h0,?_⟩;refine cbc fun h2=>h1 (.inr (.inl ⟨rfl,h2⟩))
 · rw [ifn h0]at h;exact absurd h h0
theorem zafu {m:zK} {c:zH} {x:zA} (h:zmi m c x=0):(0≤x.Op∧x.Op≤26)∧∃u,zhw x=some u∧InsV m c x u:=by
 unfold zmi at h
 by_cases hop:inB x.Op 0 26=true
 · refine⟨zay.1 hop,?_⟩;obtain⟨f,u,hf,hu,ag,_⟩:=zyb x hop;rw [ifp hop,hu]at h;have h':zv9 m c x u=0:=h;unfold zv9 at h';cases he:znj x u with
   | true=>rw [he]at h';cases h'
   | false=>
    rw [he]at h';simp only [cfa]at h';cases hl:zpp m x with
    | true=>rw [hl]at h';cases h'
    | false=>
     rw [hl]at h';simp only [cfa]at h'
     by_cases h1:zd5 x.zF u.zF=0
     · by_cases h2:zd5 x.Second u.Second=0
       · rw [ifn,ifn]at h';cases hr:zmd m c x u with
         | true=>rw [hr]at h';simp at h'
         | false=>
          rw [hr]at h';simp only [cfa]at h'
          by_cases h3:zrf x.Number=0
          · rw [ifn]at h';cases hlg:zqq x with
            | true=>rw [hlg]at h';cases h'
            | false=>
             unfold zmd at hr;simp only [Bool.or_eq_false_iff]at hr;obtain⟨r1,r2,r3,r4,r5,r6,r7,r8⟩:=hr;rw [List.any_eq_false]at r1;have reg:∀i,i∈znb x u→0≤i∧i<m.Registers:=fun i hi=>by
              have:=r1 i hi;unfold zgr at this;have h4:inB i 0 (m.Registers-1)=true:=by simpa using this
              have:=zay.1 h4;omega
             have andF:∀{p q:Bool},(p&& !q)=false→p=true→q=true:=fun {p q} h hp=>by subst hp;simpa using h
             unfold zqq at hlg;simp only [Bool.or_eq_false_iff,decide_eq_false_iff_not]at hlg;refine⟨u,hu,?_⟩;exact {
              r:=fun hx=>reg _ (by unfold znb;rw [hx];simp)
              a:=fun hx=>reg _ (by unfold znb;rw [hx];simp)
              b:=fun hx=>reg _ (by unfold znb;rw [hx];simp)
              ty1:=fun hx=>zafm (by rw [hx]at h1;exact h1)
              ty2:=fun hx=>zafl (by rw [hx]at h1;exact h1)
              ty3:=fun hx=>znq h1 (by rw [hx];decide)
              se1:=fun hx=>zafm (by rw [hx]at h2;exact h2)
              se2:=fun hx=>zafl (by rw [hx]at h2;exact h2)
              tg:=fun hx=>by have:=zay.1 (andF r2 hx);omega
              ma:=fun hx=>zay.1 (andF r3 hx)
              pt:=fun hx=>andF r4 hx
              sr:=fun hx=>andF r5 hx
              pl:=fun hx=>andF r6 hx
              fr:=fun hx=>andF r7 hx
              ca:=fun hx=>zay.1 (andF r8 hx)
              nu:=zqb.1 h3
              tx:=by omega
              ot:=by omega
              is:=(zt8 he).1}
          · rw [ifp h3]at h';exact absurd h' h3
       · rw [ifn,ifp h2]at h';exact absurd h' h2
     · rw [ifp h1]at h';exact absurd h' h1
 · rw [ifn hop]at h;cases h
structure CodeV (m:zK) (c:zH):Prop where
 m1:2≤m.Registers
 m2:m.Registers≤8
 sto:zjh c.Storage
 len:c.zB.length≤240
 pos:0<c.zB.length
 traps:c.zQ.length≤40
 ins:∀x∈c.zB,zmi m c x=0
 trap:∀t∈c.zQ,zm2 c t=true
structure StV (m:zK) (c:zH) (s:zC):Prop where
 regs:(s.Registers.length:Int)=m.Registers
 nums:∀r∈s.Registers,zeg r
 cnd:s.Condition=0∨s.Condition=1∨s.Condition=2∨s.Condition=4
 sto:zjh s.Storage
 size:s.Storage.Bytes.size=c.Storage.Bytes.size
 at0:0≤s.At
 at1:s.At<(c.zB.length:Int)
 stk:s.Stack.length≤6
 calls:∀i∈s.Stack,(0≤i∧i<(c.zB.length:Int))∧∃x,c.zB[i.toNat]?=some x∧x.Op=18
 lines:s.Lines.length≤40
 long:∀l∈s.Lines,l.size≤256
 st0:0≤s.Status
 st1:s.Status≤3
 ex0:0≤s.Exception
 ex1:s.Exception≤999
 mk0:0≤s.Marks
 mk1:s.Marks≤300
 sp0:0≤s.Steps
 sp1:s.Steps≤3000
def zfa (s:Storage) (p:zN) (n:Int):Except Int Int:=
 if p.Based=true then(match ldV s p.Pointer with|none=> .error 4|some o=>if o+p.Offset>(s.Bytes.size:Int)-n then .error 5 else .ok (o+p.Offset))else .ok p.Offset
def zgz (s:Storage) (p:zN) (t:DataType):Except Int ByteArray:=
 match zfa s p (szE t)with| .error e=> .error e| .ok a=> .ok (s.Bytes.extract a.toNat (a+szE t).toNat)
def zor (s:Storage) (p:zN) (t:DataType):Except Int Number:=
 match zgz s p t with| .error e=> .error e| .ok b=>match zlk t b with|none=> .error 1|some n=> .ok ⟨n,t.Scale⟩
theorem zi7 (s:zC) (c:zH) (b:Bool) (n:Int) (hn:n≠0):zh ⟨s,c,0⟩ b n=some (!b,⟨s,c,cond b n 0⟩):=by
 unfold zh
 cases b
 · rfl
 · simp only [bst,ctr,obs,zbx,dcf hn];rfl
theorem zrv (N:Nat) (hN:2000<N) (s:zC) (c:zH) (h:zjh s.Storage) {a:Int} (ha:ze7 s.Storage a=true):
 zbf N ⟨s,c,0⟩ a=some (match ldV s.Storage a with|some o=>(zkj o,true,⟨s,c,0⟩)|none=>(z07,false,⟨s,c,4⟩)):=by
 unfold zbf
 simp only []
 rw [z84 N hN h ha]
 cases ldV s.Storage a with
 | none=>simp only [obs];rw [zi7 _ _ _ _ (by decide)];rfl
 | some o=>simp only [obs];rw [zi7 _ _ _ _ (by decide)];rfl
theorem zo1 {s t:Storage} (h:s.Bytes.size=t.Bytes.size) (a:Int):ze7 s a=ze7 t a:=by unfold ze7;rw [h]
theorem zfj {s t:Storage} (h:s.Bytes.size=t.Bytes.size) (p:zN) (n:Int):zc8 s p n=zc8 t p n:=by unfold zc8;rw [h,zo1 h]
theorem ztl (N:Nat) (hN:2000<N) (s:zC) (c:zH) (h:zjh s.Storage) {p:zN} {n:Int} (hp:zc8 s.Storage p n=true) (hn:0<n) (hn2:n≤256):
 (∃e j k,(e=4∨e=5)∧zfa s.Storage p n= .error e∧zbp N ⟨s,c,0⟩ p n=some (j,false,⟨s,c,e⟩)∧zd7 N s p n=some (k,e))∨
 ∃a,zfa s.Storage p n= .ok a∧zbp N ⟨s,c,0⟩ p n=some (a,true,⟨s,c,0⟩)∧zd7 N s p n=some (a,0)∧0≤a∧a+n≤(s.Storage.Bytes.size:Int):=by
 have hl:=h.le
 unfold zc8 at hp
 unfold zfa zbp zd7
 try simp only [eS]
 by_cases hb:p.Based=true
 · rw [ifp hb]at hp;rw [Bool.and_eq_true]at hp;obtain⟨hp1,hp2⟩:=hp;have hp3:=zay.1 hp2;rw [ifp hb,hb];simp only [bnt,cfa];rw [zrv N hN s c h hp1,zy0 N hN h hp1];cases hld:ldV s.Storage p.Pointer with
   | none=>
    left;exact⟨4,0,0,.inl rfl,rfl,rfl,rfl⟩
   | some o=>
    have ho:=zs8 h hld;simp only [obs,bnt,cfa,bsf];rw [zi7 _ _ _ _ (by decide)];simp only [obs];rw [show(zkj o).Address.Offset=o from rfl,w6e (n:=o+p.Offset),w6e (n:=(s.Storage.Bytes.size:Int)-n)];unfold zod;rw [zma,zma,w6e (n:=(s.Storage.Bytes.size:Int)-(o+p.Offset))];simp only [obs]
    by_cases hgt:o+p.Offset>(s.Storage.Bytes.size:Int)-n
    · left;refine⟨5,o+p.Offset,0,.inr rfl,?_,?_,?_⟩
      · show(if o+p.Offset>(s.Storage.Bytes.size:Int)-n then(Except.error 5:Except Int Int)else .ok (o+p.Offset))=_;rw [ifp hgt]
      · rw [dct hgt];rfl
      · by_cases h1:inB (o+p.Offset) 0 (s.Storage.Bytes.size:Int)=true
        · rw [h1,ctr];rw [show inB n 0 ((s.Storage.Bytes.size:Int)-(o+p.Offset))=false by
           cases hh:inB n 0 ((s.Storage.Bytes.size:Int)-(o+p.Offset))with
           | false=>rfl
           | true=>have:=zay.1 hh;omega]
          rfl
        · rw [show inB (o+p.Offset) 0 (s.Storage.Bytes.size:Int)=false by simpa using h1];rfl
    · right;refine⟨o+p.Offset,?_,?_,?_,by omega,by omega⟩
      · show(if o+p.Offset>(s.Storage.Bytes.size:Int)-n then(Except.error 5:Except Int Int)else .ok (o+p.Offset))=_;rw [ifn hgt]
      · rw [dcf hgt];rfl
      · rw [show inB (o+p.Offset) 0 (s.Storage.Bytes.size:Int)=true from zay.2 ⟨by omega,by omega⟩,ctr,show inB n 0 ((s.Storage.Bytes.size:Int)-(o+p.Offset))=true from zay.2 ⟨by omega,by omega⟩];rfl
 · have hb':p.Based=false:=by simpa using hb
   rw [ifn hb]at hp;have hp3:=zay.1 hp;rw [ifn hb,hb'];right;exact⟨p.Offset,rfl,rfl,rfl,by omega,by omega⟩
theorem zo0 (N:Nat) (hN:2000<N) (s:zC) (c:zH) (h:zjh s.Storage) {p:zN} {t:DataType} (ht:zce t=0) (hp:zc8 s.Storage p (szE t)=true):
 (∃e b k,(e=4∨e=5)∧zgz s.Storage p t= .error e∧zaf N ⟨s,c,0⟩ p t=some (b,false,⟨s,c,e⟩)∧zfw N s p t=some (k,e))∨
 ∃b,zgz s.Storage p t= .ok b∧zaf N ⟨s,c,0⟩ p t=some (b,true,⟨s,c,0⟩)∧zfw N s p t=some (b,0)∧(b.size:Int)=szE t:=by
 have hsz:=zh4 ht
 have hl:=h.le
 unfold zgz zaf zfw
 try simp only [eS,eD,eP]
 rw [z29 N (by omega) ht,zmr ht]
 simp only [obs]
 have eH:(⟨s.Registers,s.Condition,s.Storage,s.At,s.Stack,s.Lines,s.Status,s.Exception,s.Marks,s.Steps⟩:zC)=s:=rfl
 try rw [eH]
 rcases ztl N hN s c h hp hsz.1 hsz.2 with⟨e,j,k,he,h1,h2,h3⟩|⟨a,h1,h2,h3,h4,h5⟩
 · left;rw [h1,h2,h3];refine⟨e,⟨#[]⟩,⟨#[]⟩,he,rfl,rfl,?_⟩;rcases he with rfl|rfl<;>rfl
 · right;rw [h1,h2,h3];simp only [obs,bnt,cfa,bsf];rw [w6e,ifp,ifp,ifp,ifp];refine⟨_,rfl,rfl,rfl,?_⟩;rw [zet _ _ _ (by omega) (by omega)];omega
theorem z6k (N:Nat) (hN:2000<N) (s:zC) (c:zH) (h:zjh s.Storage) {p:zN} {t:DataType} (ht:zi5 t) (hp:zc8 s.Storage p (szE t)=true):
 (∃e b k,(e=4∨e=5∨e=1)∧zor s.Storage p t= .error e∧zcb N ⟨s,c,0⟩ p t=some (b,false,⟨s,c,e⟩)∧zkf N s p t=some (k,e))∨
 ∃n,zor s.Storage p t= .ok n∧zcb N ⟨s,c,0⟩ p t=some (n,true,⟨s,c,0⟩)∧zkf N s p t=some (n,0)∧zeg n:=by
 unfold zor zcb zkf
 rcases zo0 N hN s c h ht.1 hp with⟨e,b,k,he,h1,h2,h3⟩|⟨b,h1,h2,h3,h4⟩
 · left;rw [h1,h2,h3];refine⟨e,⟨0,0⟩,⟨0,0⟩,by omega,rfl,rfl,?_⟩;rcases he with rfl|rfl<;>rfl
 · obtain⟨v1,a1,e1,g1,g2⟩:=z31 N hN ht h4;obtain⟨v2,a2,e2,g3,g4⟩:=zacj N hN ht h4;rw [h1,h2,h3];simp only [obs,bnt,cfa,bsf];rw [g1,g3];simp only [obs];rw [zi7 _ _ _ _ (by decide)];simp only [obs];have hbound:∀n,zlk t b=some n→-((10^t.Length.toNat:Nat):Int)<n∧n<((10^t.Length.toNat:Nat):Int):=fun n hn=>z71 ht h4 hn;cases hdv:zlk t b with
   | none=>
    rw [hdv]at g2 g4;simp only []at g2 g4;left;refine⟨1,⟨v1.N,t.Scale⟩,⟨0,0⟩,by omega,rfl,?_,?_⟩
    · rw [zde,dct g2];rfl
    · rw [zde,dct g4];rfl
   | some n=>
    rw [hdv]at g2 g4;simp only []at g2 g4;right;have hb:=hbound n hdv;obtain⟨⟨l1,l2⟩,l3,l4⟩:=zhz ht;have hpw:10^t.Length.toNat≤10^15:=zhy (by omega);refine⟨⟨n,t.Scale⟩,rfl,?_,?_,⟨⟨?_,?_⟩,l3,?_⟩⟩
    · rw [g2.2,g2.1];rfl
    · rw [g4.2,g4.1];rfl
    · show-999999999999999≤n;omega
    · show n≤999999999999999;omega
    · show t.Scale≤15;omega
def updR (s:zC) (i:Int) (n:Number):zC:=⟨s.Registers.set i.toNat n,s.Condition,s.Storage,s.At,s.Stack,s.Lines,s.Status,s.Exception,s.Marks,s.Steps⟩
def updS (s:zC) (t:Storage):zC:=⟨s.Registers,s.Condition,t,s.At,s.Stack,s.Lines,s.Status,s.Exception,s.Marks,s.Steps⟩
def updC (s:zC) (k:Int):zC:=⟨s.Registers,k,s.Storage,s.At,s.Stack,s.Lines,s.Status,s.Exception,s.Marks,s.Steps⟩
def updL (s:zC) (l:List ByteArray):zC:=⟨s.Registers,s.Condition,s.Storage,s.At,s.Stack,l,s.Status,s.Exception,s.Marks,s.Steps⟩
def updT (s:zC) (k:Int):zC:=⟨s.Registers,s.Condition,s.Storage,s.At,s.Stack,s.Lines,k,s.Exception,s.Marks,s.Steps⟩
def updK (s:zC) (l:List Int):zC:=⟨s.Registers,s.Condition,s.Storage,s.At,l,s.Lines,s.Status,s.Exception,s.Marks,s.Steps⟩
def updM (s:zC) (k:Int):zC:=⟨s.Registers,s.Condition,s.Storage,s.At,s.Stack,s.Lines,s.Status,s.Exception,k,s.Steps⟩
def rg (s:zC) (i:Int):Number:=s.Registers.getD i.toNat ⟨0,0⟩
def zke (s:zC) (a b:Int):Int:=zqz (z6j (zdc (rg s a) (zaw (rg s a) (rg s b))) (zdc (rg s b) (zaw (rg s a) (rg s b))))
def zig (s:zC) (l:ByteArray):Except Int (Int × zC):=if s.Lines.length=40 then .ok (s.At+1,updT s 3)else .ok (s.At+1,updL s (s.Lines++[l]))
def zad (s:zC) (x:zA):Except Int (Int × zC):=
 match x.Op.toNat with
 | 0=>match zor s.Storage x.Place x.zF with| .error e=> .error e| .ok n=> .ok (s.At+1,updR s x.R n)
 | 1=>if(ziw (rg s x.R) x.zF x.Half).2≠0 then .error 2 else match zfa s.Storage x.Place (szE x.zF)with| .error e=> .error e| .ok a=> .ok (s.At+1,updS s (wrV s.Storage a.toNat (zou x.zF (ziw (rg s x.R) x.zF x.Half).1.N)))
 | 2=> .ok (s.At+1,updR s x.R x.Number)
 | 3=> .ok (s.At+1,updR s x.R (rg s x.A))
 | 4=>match(if x.zO=true then zor s.Storage x.Place x.Second else .ok (rg s x.B))with
  | .error e=> .error e
  | .ok b=>if(zf5 x.zM (rg s x.A) b x.zF false).2=20 then .error 3 else if(zf5 x.zM (rg s x.A) b x.zF false).2≠0 then .error 2 else .ok (s.At+1,updR s x.R ⟨(zf5 x.zM (rg s x.A) b x.zF false).1.N,x.zF.Scale⟩)
 | 5=> .ok (s.At+1,updC s (zke s x.A x.B))
 | 6=> .ok (cond (zg .i64 s.Condition x.Mask !=0) x.Target (s.At+1),s)
 | 7=> .ok (cond (zg .i64 (zke s x.A x.B) x.Mask !=0) x.Target (s.At+1),s)
 | 8=> .ok (x.Target,s)
 | 9=>match zgz s.Storage x.From x.Second with
  | .error e=> .error e
  | .ok b=>match zfa s.Storage x.Place (szE x.zF)with| .error e=> .error e| .ok a=> .ok (s.At+1,updS s (wrV s.Storage a.toNat (zle b x.zF.Length.toNat)))
 | 10=>match zfa s.Storage x.Place (szE x.zF)with| .error e=> .error e| .ok a=> .ok (s.At+1,updS s (wrV s.Storage a.toNat (zle x.Text x.zF.Length.toNat)))
 | 11=>match zgz s.Storage x.Place x.zF with
  | .error e=> .error e
  | .ok a=>match zgz s.Storage x.From x.Second with| .error e=> .error e| .ok b=> .ok (s.At+1,updC s (zm8 a b))
 | 12=>match zgz s.Storage x.Place x.zF with| .error e=> .error e| .ok a=> .ok (s.At+1,updC s (zm8 a x.Text))
 | 13=> .ok (s.At+1,updC s (zm8 x.Text x.Other))
 | 14=>match zfa s.Storage x.Place (szE x.zF)with| .error e=> .error e| .ok a=> .ok (s.At+1,updS s (stV s.Storage x.Pointer.toNat a.toNat))
 | 15=>match ldV s.Storage x.Source with|none=> .error 4|some o=> .ok (s.At+1,updS s (stV s.Storage x.Pointer.toNat o.toNat))
 | 16=>match ldV s.Storage x.Pointer with
  | none=> .error 4
  | some o=>if inB (o+zfu (rg s x.R)) 0 16777215=true then .ok (s.At+1,updS s (stV s.Storage x.Pointer.toNat (o+zfu (rg s x.R)).toNat))else .error 5
 | 17=>match ldV s.Storage x.Pointer with|none=> .error 4|some _=> .ok (s.At+1,s)
 | 18=>if 6≤s.Stack.length then .error 6 else .ok (x.Target,updK s (s.Stack++[s.At]))
 | 19=>if s.Stack.length=0 then .ok (s.At,updT s 1)else .ok (s.Stack.getD (s.Stack.length-1) 0+1,updK s (s.Stack.take (s.Stack.length-1)))
 | 20=>if inB (zfu (rg s x.R)) 100 999=true then .error (zfu (rg s x.R))else .error 2
 | 21=> .ok (s.At+1,updR s x.R ⟨s.Exception,0⟩)
 | 22=>zig s (zql (rg s x.R))
 | 23=>match zgz s.Storage x.Place x.zF with| .error e=> .error e| .ok b=>zig s b
 | 24=>zig s x.Text
 | 25=>if s.Marks=300 then .ok (s.At+1,updT s 3)else .ok (s.At+1,updM s (s.Marks+1))
 | _=> .ok (s.At+1,updT s 1)
section
variable {m:zK} {c:zH} {s:zC}
theorem StV.updR (h:StV m c s) {i:Int} {n:Number} (hn:zeg n):StV m c (updR s i n):={
 regs:=by show((s.Registers.set i.toNat n).length:Int)=_;rw [List.length_set];exact h.regs
 nums:=fun r hr=>by
  rcases List.mem_or_eq_of_mem_set (show r∈s.Registers.set i.toNat n from hr)with h1|h1
  · exact h.nums r h1
  · rw [h1];exact hn
 cnd:=h.cnd,sto:=h.sto,size:=h.size,at0:=h.at0,at1:=h.at1,stk:=h.stk,calls:=h.calls,lines:=h.lines,long:=h.long,st0:=h.st0,st1:=h.st1,ex0:=h.ex0,ex1:=h.ex1,mk0:=h.mk0,mk1:=h.mk1,sp0:=h.sp0,sp1:=h.sp1}
theorem StV.updS (h:StV m c s) {t:Storage} (ht:zjh t) (hz:t.Bytes.size=s.Storage.Bytes.size):StV m c (updS s t):={
 regs:=h.regs,nums:=h.nums,cnd:=h.cnd,sto:=ht,size:=hz.trans h.size,at0:=h.at0,at1:=h.at1,stk:=h.stk,calls:=h.calls,lines:=h.lines,long:=h.long,st0:=h.st0,st1:=h.st1,ex0:=h.ex0,ex1:=h.ex1,mk0:=h.mk0,mk1:=h.mk1,sp0:=h.sp0,sp1:=h.sp1}
theorem StV.updC (h:StV m c s) {k:Int} (hk:k=1∨k=2∨k=4):StV m c (updC s k):={
 regs:=h.regs,nums:=h.nums,cnd:= .inr hk,sto:=h.sto,size:=h.size,at0:=h.at0,at1:=h.at1,stk:=h.stk,calls:=h.calls,lines:=h.lines,long:=h.long,st0:=h.st0,st1:=h.st1,ex0:=h.ex0,ex1:=h.ex1,mk0:=h.mk0,mk1:=h.mk1,sp0:=h.sp0,sp1:=h.sp1}
theorem StV.updL (h:StV m c s) {l:ByteArray} (h1:s.Lines.length<40) (h2:l.size≤256):StV m c (updL s (s.Lines++[l])):={
 regs:=h.regs,nums:=h.nums,cnd:=h.cnd,sto:=h.sto,size:=h.size,at0:=h.at0,at1:=h.at1,stk:=h.stk,calls:=h.calls
 lines:=by show(s.Lines++[l]).length≤40;rw [lna,lns];omega
 long:=fun y hy=>by
  rcases List.mem_append.1 (show y∈s.Lines++[l]from hy)with h3|h3
  · exact h.long y h3
  · rw [List.mem_singleton.1 h3];exact h2
 st0:=h.st0,st1:=h.st1,ex0:=h.ex0,ex1:=h.ex1,mk0:=h.mk0,mk1:=h.mk1,sp0:=h.sp0,sp1:=h.sp1}
theorem StV.updT (h:StV m c s) {k:Int} (h1:0≤k) (h2:k≤3):StV m c (updT s k):={
 regs:=h.regs,nums:=h.nums,cnd:=h.cnd,sto:=h.sto,size:=h.size,at0:=h.at0,at1:=h.at1,stk:=h.stk,calls:=h.calls,lines:=h.lines,long:=h.long,st0:=h1,st1:=h2,ex0:=h.ex0,ex1:=h.ex1,mk0:=h.mk0,mk1:=h.mk1,sp0:=h.sp0,sp1:=h.sp1}
theorem StV.updK (h:StV m c s) {l:List Int} (h1:l.length≤6) (h2:∀i∈l,(0≤i∧i<(c.zB.length:Int))∧∃x,c.zB[i.toNat]?=some x∧x.Op=18):StV m c (updK s l):={
 regs:=h.regs,nums:=h.nums,cnd:=h.cnd,sto:=h.sto,size:=h.size,at0:=h.at0,at1:=h.at1,stk:=h1,calls:=h2,lines:=h.lines,long:=h.long,st0:=h.st0,st1:=h.st1,ex0:=h.ex0,ex1:=h.ex1,mk0:=h.mk0,mk1:=h.mk1,sp0:=h.sp0,sp1:=h.sp1}
theorem StV.updM (h:StV m c s) {k:Int} (h1:0≤k) (h2:k≤300):StV m c (updM s k):={
 regs:=h.regs,nums:=h.nums,cnd:=h.cnd,sto:=h.sto,size:=h.size,at0:=h.at0,at1:=h.at1,stk:=h.stk,calls:=h.calls,lines:=h.lines,long:=h.long,st0:=h.st0,st1:=h.st1,ex0:=h.ex0,ex1:=h.ex1,mk0:=h1,mk1:=h2,sp0:=h.sp0,sp1:=h.sp1}
theorem zg7 (h:StV m c s) {i:Int} (hi:0≤i∧i<m.Registers):0≤i∧i<(s.Registers.length:Int)∧s.Registers[i.toNat]?=some (rg s i)∧idx s.Registers i=some (rg s i)∧zeg (rg s i):=by
 have hr:=h.regs
 have hx:s.Registers[i.toNat]?=some (rg s i):=by
  unfold rg;rw [gdd,lge (by omega)];rfl
 refine⟨hi.1,by omega,hx,?_,h.nums _ (lmg hx)⟩
 unfold idx
 rw [ifp hi.1,hx]
theorem zqy (o:Int):zqz o=1∨zqz o=2∨zqz o=4:=by
 unfold zqz
 repeat' split
 all_goals simp
theorem zx8 (h:StV m c s) (hm:m.Registers≤8) {i:Int} (hi:0≤i∧i<m.Registers) (n:Number) (e:Int):zap ⟨s,c,e⟩ i n=some ⟨updR s i n,c,e⟩:=by
 obtain⟨h1,h2,h3,_⟩:=zg7 h hi
 have hr:=h.regs
 unfold zap zc6
 simp only []
 rw [zds (by omega),ctr,obs,ifp h1,ifp h2,h3]
 rfl
theorem z34 (N:Nat) (hN:300<N) (h:StV m c s) (x:zA) (ha:0≤x.A∧x.A<m.Registers) (hb:0≤x.B∧x.B<m.Registers) (e:Int):za8 N ⟨s,c,e⟩ x=some (zke s x.A x.B):=by
 obtain⟨_,_,_,a4,a5⟩:=zg7 h ha
 obtain⟨_,_,_,b4,b5⟩:=zg7 h hb
 unfold za8
 simp only []
 rw [a4,b4]
 simp only [obs]
 rw [zzm N hN a5 b5]
 simp only [obs]
 rw [z0u]
 rfl
theorem z4p (x y:Int):zg .i64 x y=zg .i64 y x:=by unfold zg;rw [BitVec.and_comm]
def zdh (N:Nat) (m:zK) (c:zH) (s:zC) (x:zA):Prop:=
 (∃e nx ny t,zad s x= .error e∧(1≤e∧e≤999)∧ze N ⟨s,c,0⟩ x=some (nx,⟨s,c,e⟩)∧zf N c s=some (ny,e,t))∨
 ∃n k t,zad s x= .ok (n,t)∧ze N ⟨s,c,0⟩ x=some (n,⟨t,c,0⟩)∧zf N c s=some (k,0,t)∧(t.Status=0→k=n∧0≤n∧n≤(c.zB.length:Int))∧StV m c t∧t.At=s.At∧t.Steps=s.Steps∧t.Exception=s.Exception
theorem zgc {x:zA} (hc:CodeV m c) (hx:x∈c.zB) {k:Int} (hop:x.Op=k) {U:zR} (hU:z97 k x.zO=some U):InsV m c x U:=by
 obtain⟨_,u,h1,h2⟩:=zafu (hc.ins x hx)
 rw [zabw,hop,hU]at h1
 cases h1
 exact h2
end
section
variable {m:zK} {c:zH} {s:zC}
theorem znt {b:Bool} {p q:Nat} {t:DataType} {half:Bool} (h:(zme b p q t half).2=0): -((10^t.Length.toNat:Nat):Int)<(zme b p q t half).1.N∧(zme b p q t half).1.N<((10^t.Length.toNat:Nat):Int):=by
 unfold zme at h⊢
 have:=zi3 t.Length.toNat
 generalize (p*10^t.Scale.toNat/q+cond (half&&decide (q≤p*10^t.Scale.toNat%q+p*10^t.Scale.toNat%q)) 1 0)=Q at*
 generalize 10^t.Length.toNat=T at*
 split at h
 · cases h
 · rename_i hn;rw [ifn hn];cases b
   · show-(T:Int)<(Q:Int)∧(Q:Int)<T;omega
   · show-(T:Int)< -(Q:Int)∧-(Q:Int)<T;omega
theorem zai5 (b:Bool) (p q:Nat) (t:DataType) (half:Bool):(zme b p q t half).1=⟨(zme b p q t half).1.N,⟨#[]⟩⟩:=by
 unfold zme
 split<;>rfl
theorem zahu {x:Number} {t:DataType} {half:Bool} (h:(ziw x t half).2=0):(zme (decide (x.N<0)) x.N.natAbs (10^x.Scale.toNat) t half).2=0:=h
theorem zajz (x:Number) (t:DataType) (half:Bool):(ziw x t half).1=⟨(ziw x t half).1.N,⟨#[]⟩⟩:=zai5 _ _ _ _ _
theorem ex_0 (s:zC) {x:zA} (hop:x.Op=0):zad s x=(match zor s.Storage x.Place x.zF with| .error e=> .error e| .ok n=> .ok (s.At+1,updR s x.R n)):=by
 cases x;cases hop;rfl
theorem hx_0 (N:Nat) (M:zG) {x:zA} (hop:x.Op=0):ze N M x=(zcb N M x.Place x.zF).bind fun r1=>cond r1.2.1 ((zap r1.2.2 x.R r1.1).bind fun r=>some (w6 (r.zC.At+1),r)) (some (w6 (r1.2.2.zC.At+1),r1.2.2)):=by
 cases x;cases hop;rfl
theorem rx_0 (N:Nat) {x:zA} (hop:x.Op=0) (hi:idx c.zB s.At=some x):zf N c s=((zkf N s x.Place x.zF).bind fun r1=>cond (r1.2 !=0) (some (r1.2,s)) (if 0≤x.R then(if x.R<(s.Registers.length:Int)then((s.Registers[x.R.toNat]?).bind fun _=>some (0,updR s x.R r1.1))else none)else none)).bind fun r=>some (w6 (s.At+1),r.1,r.2):=by
 unfold zf
 rw [hi,obs]
 clear hi
 cases x;cases hop;rfl
theorem zaka (N:Nat) (hN:20000<N) (hc:CodeV m c) (hs:StV m c s) {x:zA} (hx:c.zB[s.At.toNat]?=some x) (hop:x.Op=0):zdh N m c s x:=by
 have iv:=zgc hc (lmg hx) hop (U:=⟨true,false,false,true,false,false,false,false,false,false,false,false,false,false,1,0⟩) rfl
 have hi:idx c.zB s.At=some x:=by unfold idx;rw [ifp hs.at0,hx]
 have m8:=hc.m2
 have a0:=hs.at0
 have a1:=hs.at1
 have n240:=hc.len
 have wn1:w6 (s.At+1)=s.At+1:=w6e
 unfold zdh
 rw [ex_0 s hop,hx_0 N _ hop,rx_0 N hop hi]
 obtain⟨g1,g2,g3,g4,g5⟩:=zg7 hs (iv.r rfl)
 have hp:zc8 s.Storage x.Place (szE x.zF)=true:=by rw [zfj hs.size];have:=iv.pl rfl;unfold zd4 at this;rw [ifn]at this;exact this
 rcases z6k N (by omega) s c hs.sto (iv.ty1 rfl) hp with⟨e,b,k,he,h1,h2,h3⟩|⟨n,h1,h2,h3,h4⟩
 · rw [h1,h2,h3];refine .inl ⟨e,_,w6 (s.At+1),s,rfl,by omega,rfl,?_⟩;rcases he with rfl|rfl|rfl<;>rfl
 · rw [h1,h2,h3];refine .inr ⟨_,_,_,rfl,?_,?_,fun _=>⟨rfl,by omega,by omega⟩,hs.updR h4,rfl,rfl,rfl⟩
   · simp only [obs,ctr];rw [zx8 hs m8 (iv.r rfl)];show some (w6 (s.At+1),_)=_;rw [wn1]
   · simp only [obs,bsf,cfa];rw [ifp g1,ifp g2,g3];show some (w6 (s.At+1),_)=_;rw [wn1]
theorem ex_1 (s:zC) {x:zA} (hop:x.Op=1):zad s x=(if(ziw (rg s x.R) x.zF x.Half).2≠0 then .error 2 else match zfa s.Storage x.Place (szE x.zF)with| .error e=> .error e| .ok a=> .ok (s.At+1,updS s (wrV s.Storage a.toNat (zou x.zF (ziw (rg s x.R) x.zF x.Half).1.N)))):=by
 cases x;cases hop;rfl
theorem hx_1 (N:Nat) (M:zG) {x:zA} (hop:x.Op=1):ze N M x=(zfs N M x).bind fun r=>some (w6 (r.zC.At+1),r):=by
 cases x;cases hop;rfl
theorem rx_1 (N:Nat) {x:zA} (hop:x.Op=1) (hi:idx c.zB s.At=some x):zf N c s=(if 0≤x.R then(if x.R<(s.Registers.length:Int)then((s.Registers[x.R.toNat]?).bind fun x3=>(zpg N x3 x.zF x.Half).bind fun r4=>
 cond (r4.2 !=0) (some (2,s)) ((zdp x.zF).bind fun r5=>(zd7 N s x.Place r5).bind fun r6=>cond (r6.2 !=0) (some (r6.2,s))
 ((zqp N x.zF r4.1).bind fun r7=>(zht N s.Storage r6.1 r7).bind fun r8=>some (0,updS s r8))))else none)else none).bind fun r=>some (w6 (s.At+1),r.1,r.2):=by
 unfold zf
 rw [hi,obs]
 clear hi
 cases x;cases hop;rfl
theorem zaj9 (N:Nat) (hN:20000<N) (hc:CodeV m c) (hs:StV m c s) {x:zA} (hx:c.zB[s.At.toNat]?=some x) (hop:x.Op=1):zdh N m c s x:=by
 have iv:=zgc hc (lmg hx) hop (U:=⟨true,false,false,true,false,true,false,false,false,false,false,false,false,false,1,0⟩) rfl
 have hi:idx c.zB s.At=some x:=by unfold idx;rw [ifp hs.at0,hx]
 have m8:=hc.m2
 have a0:=hs.at0
 have a1:=hs.at1
 have n240:=hc.len
 have wn1:w6 (s.At+1)=s.At+1:=w6e
 unfold zdh
 rw [ex_1 s hop,hx_1 N _ hop,rx_1 N hop hi]
 obtain⟨g1,g2,g3,g4,g5⟩:=zg7 hs (iv.r rfl)
 have ht:=iv.ty1 rfl
 have hp:zc8 s.Storage x.Place (szE x.zF)=true:=by rw [zfj hs.size];have:=iv.pl rfl;unfold zd4 at this;rw [ifn]at this;exact this
 have hsz:=zh4 ht.1
 unfold zfs
 rw [ifp g1,ifp g2,g3]
 simp only []
 rw [g4]
 simp only [obs]
 rw [z9c N (by omega) g5 ht,zagt N (by omega) g5 ht]
 simp only [obs]
 rw [zi7 _ _ _ _ (by decide)]
 simp only [obs]
 by_cases hv:(ziw (rg s x.R) x.zF x.Half).2=0
 · rw [hv,ifn (by decide)];simp only [bsf,Bool.not_false,ctr,cfa];have hr: -((10^x.zF.Length.toNat:Nat):Int)<(ziw (rg s x.R) x.zF x.Half).1.N∧(ziw (rg s x.R) x.zF x.Half).1.N<((10^x.zF.Length.toNat:Nat):Int):=znt (zahu hv);obtain⟨n,hcv⟩:∃n,(ziw (rg s x.R) x.zF x.Half).1=⟨n,⟨#[]⟩⟩:=⟨_,zajz _ _ _⟩;rw [hcv]at hr⊢;simp only []at hr⊢;rw [z30 N (by omega) ht _ hr,zmr ht.1];simp only [obs];have hes:=z4e ht n;unfold zbs;rw [hes];rcases ztl N (by omega) s c hs.sto hp hsz.1 hsz.2 with⟨e,j,k,he,h1,h2,h3⟩|⟨a,h1,h2,h3,h4,h5⟩
   · rw [h1,h2,h3];refine .inl ⟨e,_,w6 (s.At+1),s,rfl,by omega,rfl,?_⟩;rcases he with rfl|rfl<;>rfl
   · rw [h1,h2,h3];obtain⟨a,rfl⟩:∃k:Nat,a=(k:Int):=⟨a.toNat,by omega⟩;have hw:a+(zou x.zF n).size≤s.Storage.Bytes.size:=by omega
     have hw0:0<(zou x.zF n).size:=by omega
     refine .inr ⟨_,_,_,rfl,?_,?_,fun _=>⟨rfl,by omega,by omega⟩,hs.updS (z44 hs.sto hw hw0) (zu9 hw),rfl,rfl,rfl⟩
     · simp only [obs,ctr];rw [zzz N (by omega) hs.sto hw hw0];show some (w6 (s.At+1),_)=_;rw [wn1];rfl
     · simp only [obs,bsf,cfa];rw [zaen N (by omega) ht _ hr];simp only [obs];rw [z51 N (by omega) hs.sto hw hw0];show some (w6 (s.At+1),_)=_;rw [wn1];rfl
 · rw [ifp hv,zde,dct hv];exact .inl ⟨2,_,_,s,rfl,by omega,rfl,rfl⟩
theorem ex_2 (s:zC) {x:zA} (hop:x.Op=2):zad s x=(.ok (s.At+1,updR s x.R x.Number)):=by
 cases x;cases hop;rfl
theorem hx_2 (N:Nat) (M:zG) {x:zA} (hop:x.Op=2):ze N M x=(zap M x.R x.Number).bind fun r=>some (w6 (r.zC.At+1),r):=by
 cases x;cases hop;rfl
theorem rx_2 (N:Nat) {x:zA} (hop:x.Op=2) (hi:idx c.zB s.At=some x):zf N c s=(if 0≤x.R then(if x.R<(s.Registers.length:Int)then((s.Registers[x.R.toNat]?).bind fun _=>some (0,updR s x.R x.Number))else none)else none).bind fun r=>some (w6 (s.At+1),r.1,r.2):=by
 unfold zf
 rw [hi,obs]
 clear hi
 cases x;cases hop;rfl
theorem zaj8 (N:Nat) (hN:20000<N) (hc:CodeV m c) (hs:StV m c s) {x:zA} (hx:c.zB[s.At.toNat]?=some x) (hop:x.Op=2):zdh N m c s x:=by
 have iv:=zgc hc (lmg hx) hop (U:=⟨true,false,false,false,false,false,true,false,false,false,false,false,false,false,0,0⟩) rfl
 have hi:idx c.zB s.At=some x:=by unfold idx;rw [ifp hs.at0,hx]
 have m8:=hc.m2
 have a0:=hs.at0
 have a1:=hs.at1
 have n240:=hc.len
 have wn1:w6 (s.At+1)=s.At+1:=w6e
 unfold zdh
 rw [ex_2 s hop,hx_2 N _ hop,rx_2 N hop hi]
 obtain⟨g1,g2,g3,g4,g5⟩:=zg7 hs (iv.r rfl)
 refine .inr ⟨_,_,_,rfl,?_,?_,fun _=>⟨rfl,by omega,by omega⟩,hs.updR iv.nu,rfl,rfl,rfl⟩
 · rw [zx8 hs m8 (iv.r rfl)];show some (w6 (s.At+1),_)=_;rw [wn1]
 · rw [ifp g1,ifp g2,g3];show some (w6 (s.At+1),_)=_;rw [wn1]
theorem ex_3 (s:zC) {x:zA} (hop:x.Op=3):zad s x=(.ok (s.At+1,updR s x.R (rg s x.A))):=by
 cases x;cases hop;rfl
theorem hx_3 (N:Nat) (M:zG) {x:zA} (hop:x.Op=3):ze N M x=(idx M.zC.Registers x.A).bind fun v=>(zap M x.R v).bind fun r=>some (w6 (r.zC.At+1),r):=by
 cases x;cases hop;rfl
theorem rx_3 (N:Nat) {x:zA} (hop:x.Op=3) (hi:idx c.zB s.At=some x):zf N c s=(if 0≤x.A then(if x.A<(s.Registers.length:Int)then((s.Registers[x.A.toNat]?).bind fun v=>if 0≤x.R then(if x.R<(s.Registers.length:Int)then((s.Registers[x.R.toNat]?).bind fun _=>some (0,updR s x.R v))else none)else none)else none)else none).bind fun r=>some (w6 (s.At+1),r.1,r.2):=by
 unfold zf
 rw [hi,obs]
 clear hi
 cases x;cases hop;rfl
theorem zaj7 (N:Nat) (hN:20000<N) (hc:CodeV m c) (hs:StV m c s) {x:zA} (hx:c.zB[s.At.toNat]?=some x) (hop:x.Op=3):zdh N m c s x:=by
 have iv:=zgc hc (lmg hx) hop (U:=⟨true,true,false,false,false,false,false,false,false,false,false,false,false,false,0,0⟩) rfl
 have hi:idx c.zB s.At=some x:=by unfold idx;rw [ifp hs.at0,hx]
 have m8:=hc.m2
 have a0:=hs.at0
 have a1:=hs.at1
 have n240:=hc.len
 have wn1:w6 (s.At+1)=s.At+1:=w6e
 unfold zdh
 rw [ex_3 s hop,hx_3 N _ hop,rx_3 N hop hi]
 obtain⟨g1,g2,g3,g4,g5⟩:=zg7 hs (iv.r rfl)
 obtain⟨f1,f2,f3,f4,f5⟩:=zg7 hs (iv.a rfl)
 refine .inr ⟨_,_,_,rfl,?_,?_,fun _=>⟨rfl,by omega,by omega⟩,hs.updR f5,rfl,rfl,rfl⟩
 · show((idx s.Registers x.A).bind _)=_;rw [f4,obs,zx8 hs m8 (iv.r rfl)];show some (w6 (s.At+1),_)=_;rw [wn1]
 · rw [ifp f1,ifp f2,f3,obs,ifp g1,ifp g2,g3];show some (w6 (s.At+1),_)=_;rw [wn1]
theorem ex_5 (s:zC) {x:zA} (hop:x.Op=5):zad s x=(.ok (s.At+1,updC s (zke s x.A x.B))):=by
 cases x;cases hop;rfl
theorem hx_5 (N:Nat) (M:zG) {x:zA} (hop:x.Op=5):ze N M x=(za8 N M x).bind fun r=>some (w6 (M.zC.At+1),⟨updC M.zC r,M.code,M.raised⟩):=by
 cases x;cases hop;rfl
theorem rx_5 (N:Nat) {x:zA} (hop:x.Op=5) (hi:idx c.zB s.At=some x):zf N c s=(if 0≤x.A then(if x.A<(s.Registers.length:Int)then((s.Registers[x.A.toNat]?).bind fun v=>if 0≤x.B then(if x.B<(s.Registers.length:Int)then((s.Registers[x.B.toNat]?).bind fun w=>(zmt N v w).bind fun r14=>(zk2 r14).bind fun r15=>some (0,updC s r15))else none)else none)else none)else none).bind fun r=>some (w6 (s.At+1),r.1,r.2):=by
 unfold zf
 rw [hi,obs]
 clear hi
 cases x;cases hop;rfl
theorem zaj5 (N:Nat) (hN:20000<N) (hc:CodeV m c) (hs:StV m c s) {x:zA} (hx:c.zB[s.At.toNat]?=some x) (hop:x.Op=5):zdh N m c s x:=by
 have iv:=zgc hc (lmg hx) hop (U:=⟨false,true,true,false,false,false,false,false,false,false,false,false,false,false,0,0⟩) rfl
 have hi:idx c.zB s.At=some x:=by unfold idx;rw [ifp hs.at0,hx]
 have m8:=hc.m2
 have a0:=hs.at0
 have a1:=hs.at1
 have n240:=hc.len
 have wn1:w6 (s.At+1)=s.At+1:=w6e
 unfold zdh
 rw [ex_5 s hop,hx_5 N _ hop,rx_5 N hop hi]
 obtain⟨g1,g2,g3,g4,g5⟩:=zg7 hs (iv.b rfl)
 obtain⟨f1,f2,f3,f4,f5⟩:=zg7 hs (iv.a rfl)
 refine .inr ⟨_,_,_,rfl,?_,?_,fun _=>⟨rfl,by omega,by omega⟩,hs.updC (zqy _),rfl,rfl,rfl⟩
 · rw [z34 N (by omega) hs x (iv.a rfl) (iv.b rfl)];show some (w6 (s.At+1),_)=_;rw [wn1]
 · rw [ifp f1,ifp f2,f3,obs,ifp g1,ifp g2,g3,obs,z56 N (by omega) f5 g5,obs,z54];show some (w6 (s.At+1),_)=_;rw [wn1];rfl
theorem zamo (s:zC) {x:zA} (hop:x.Op=21):zad s x=(.ok (s.At+1,updR s x.R ⟨s.Exception,0⟩)):=by
 cases x;cases hop;rfl
theorem zal3 (N:Nat) (M:zG) {x:zA} (hop:x.Op=21):ze N M x=(zap M x.R ⟨M.zC.Exception,0⟩).bind fun r=>some (w6 (r.zC.At+1),r):=by
 cases x;cases hop;rfl
theorem zakw (N:Nat) {x:zA} (hop:x.Op=21) (hi:idx c.zB s.At=some x):zf N c s=(if 0≤x.R then(if x.R<(s.Registers.length:Int)then((s.Registers[x.R.toNat]?).bind fun _=>some (0,updR s x.R ⟨s.Exception,0⟩))else none)else none).bind fun r=>some (w6 (s.At+1),r.1,r.2):=by
 unfold zf
 rw [hi,obs]
 clear hi
 cases x;cases hop;rfl
theorem zah3 (N:Nat) (hN:20000<N) (hc:CodeV m c) (hs:StV m c s) {x:zA} (hx:c.zB[s.At.toNat]?=some x) (hop:x.Op=21):zdh N m c s x:=by
 have iv:=zgc hc (lmg hx) hop (U:=⟨true,false,false,false,false,false,false,false,false,false,false,false,false,false,0,0⟩) rfl
 have hi:idx c.zB s.At=some x:=by unfold idx;rw [ifp hs.at0,hx]
 have m8:=hc.m2
 have a0:=hs.at0
 have a1:=hs.at1
 have n240:=hc.len
 have wn1:w6 (s.At+1)=s.At+1:=w6e
 unfold zdh
 rw [zamo s hop,zal3 N _ hop,zakw N hop hi]
 obtain⟨g1,g2,g3,g4,g5⟩:=zg7 hs (iv.r rfl)
 have hn:zeg ⟨s.Exception,0⟩:=by
  have:=hs.ex0;have:=hs.ex1;exact⟨⟨by show-999999999999999≤s.Exception;omega,by show s.Exception≤999999999999999;omega⟩,by show(0:Int)≤0;omega,by show(0:Int)≤15;omega⟩
 refine .inr ⟨_,_,_,rfl,?_,?_,fun _=>⟨rfl,by omega,by omega⟩,hs.updR hn,rfl,rfl,rfl⟩
 · rw [zx8 hs m8 (iv.r rfl)];show some (w6 (s.At+1),_)=_;rw [wn1]
 · rw [ifp g1,ifp g2,g3];show some (w6 (s.At+1),_)=_;rw [wn1]
end
section
variable {m:zK} {c:zH} {s:zC}
theorem zzv {op:Int} {a b:Number} {t:DataType} {half:Bool} (h:(zf5 op a b t half).2=0): -((10^t.Length.toNat:Nat):Int)<(zf5 op a b t half).1.N∧(zf5 op a b t half).1.N<((10^t.Length.toNat:Nat):Int):=by
 unfold zf5 at h⊢
 by_cases h1:(op=3∨op=4)∧b.N=0
 · rw [ifp h1]at h;cases h
 · rw [ifn h1]at h⊢
   by_cases h2:op=0
   · rw [ifp h2]at h⊢;exact znt h
   · rw [ifn h2]at h⊢
     by_cases h3:op=1
     · rw [ifp h3]at h⊢;exact znt h
     · rw [ifn h3]at h⊢
       by_cases h4:op=2
       · rw [ifp h4]at h⊢;exact znt h
       · rw [ifn h4]at h⊢
         by_cases h5:op=3
         · rw [ifp h5]at h⊢;exact znt h
         · rw [ifn h5]at h⊢;exact znt h
theorem zajb {t:DataType} (ht:zi5 t) {n:Int} (h: -((10^t.Length.toNat:Nat):Int)<n∧n<((10^t.Length.toNat:Nat):Int)):zeg ⟨n,t.Scale⟩:=by
 obtain⟨⟨l1,l2⟩,l3,l4⟩:=zhz ht
 have hpw:10^t.Length.toNat≤10^15:=zhy (by omega)
 refine⟨⟨?_,?_⟩,l3,?_⟩
 · show-999999999999999≤n;omega
 · show n≤999999999999999;omega
 · show t.Scale≤15;omega
theorem z74 (N:Nat) (hN:20000<N) (hs:StV m c s) (m8:m.Registers≤8) {x:zA} (hr:0≤x.R∧x.R<m.Registers) (ha:0≤x.A∧x.A<m.Registers) (ht:zi5 x.zF) (ho:0≤x.zM∧x.zM≤4) {b:Number} (hb:zeg b):
 (∃e,(e=3∨e=2)∧(if(zf5 x.zM (rg s x.A) b x.zF false).2=20 then(.error 3:Except Int (Int × zC))else if(zf5 x.zM (rg s x.A) b x.zF false).2≠0 then .error 2 else .ok (s.At+1,updR s x.R ⟨(zf5 x.zM (rg s x.A) b x.zF false).1.N,x.zF.Scale⟩))= .error e∧
  ((zda N x.zM (rg s x.A) b x.zF false).bind fun r3=>(zh ⟨s,c,0⟩ (r3.2==20) 3).bind fun r4=>cond r4.1 ((zh r4.2 (r3.2 !=0) 2).bind fun r5=>cond r5.1 ((zap r5.2 x.R (⟨r3.1.N,x.zF.Scale⟩:Number)).bind fun r6=>some r6) (some r5.2)) (some r4.2))=some ⟨s,c,e⟩∧
  ((zhk N (⟨x.zM,x.zF,false⟩:yB) (rg s x.A) b).bind fun r19=>cond (r19.2==20) (some ((3:Int),s)) (cond (r19.2 !=0) (some (2,s)) (if 0≤x.R then(if x.R<(s.Registers.length:Int)then((s.Registers[x.R.toNat]?).bind fun _=>some (0,updR s x.R ⟨r19.1.N,x.zF.Scale⟩))else none)else none)))=some (e,s))∨
 ∃n,zeg n∧(if(zf5 x.zM (rg s x.A) b x.zF false).2=20 then(.error 3:Except Int (Int × zC))else if(zf5 x.zM (rg s x.A) b x.zF false).2≠0 then .error 2 else .ok (s.At+1,updR s x.R ⟨(zf5 x.zM (rg s x.A) b x.zF false).1.N,x.zF.Scale⟩))= .ok (s.At+1,updR s x.R n)∧
  ((zda N x.zM (rg s x.A) b x.zF false).bind fun r3=>(zh ⟨s,c,0⟩ (r3.2==20) 3).bind fun r4=>cond r4.1 ((zh r4.2 (r3.2 !=0) 2).bind fun r5=>cond r5.1 ((zap r5.2 x.R (⟨r3.1.N,x.zF.Scale⟩:Number)).bind fun r6=>some r6) (some r5.2)) (some r4.2))=some ⟨updR s x.R n,c,0⟩∧
  ((zhk N (⟨x.zM,x.zF,false⟩:yB) (rg s x.A) b).bind fun r19=>cond (r19.2==20) (some ((3:Int),s)) (cond (r19.2 !=0) (some (2,s)) (if 0≤x.R then(if x.R<(s.Registers.length:Int)then((s.Registers[x.R.toNat]?).bind fun _=>some (0,updR s x.R ⟨r19.1.N,x.zF.Scale⟩))else none)else none)))=some (0,updR s x.R n):=by
 obtain⟨g1,g2,g3,g4,g5⟩:=zg7 hs hr
 obtain⟨f1,f2,f3,f4,f5⟩:=zg7 hs ha
 rw [z9d N (by omega) ho f5 hb ht,zagu N (by omega) ho f5 hb ht]
 simp only [obs]
 rw [zi7 _ _ _ _ (by decide)]
 simp only [obs,zbx]
 by_cases h20:(zf5 x.zM (rg s x.A) b x.zF false).2=20
 · left;rw [dct h20,ifp h20];exact⟨3,.inl rfl,rfl,rfl,rfl⟩
 · rw [dcf h20,ifn h20];simp only [Bool.not_false,ctr,cfa];rw [zi7 _ _ _ _ (by decide)];simp only [obs]
   by_cases h0:(zf5 x.zM (rg s x.A) b x.zF false).2=0
   · right;have hn:=zajb ht (zzv h0);rw [ifn (by rw [h0];decide),h0];refine⟨_,hn,rfl,?_,?_⟩
     · simp only [bsf,Bool.not_false,ctr,cfa];rw [zx8 hs m8 hr];rfl
     · simp only [bsf,cfa];rw [ifp g1,ifp g2,g3];rfl
   · left;rw [ifp h0,zde,dct h0];exact⟨2,.inr rfl,rfl,rfl,rfl⟩
theorem ex_4 (s:zC) {x:zA} (hop:x.Op=4):zad s x=(match(if x.zO=true then zor s.Storage x.Place x.Second else .ok (rg s x.B))with
 | .error e=> .error e
 | .ok b=>if(zf5 x.zM (rg s x.A) b x.zF false).2=20 then .error 3 else if(zf5 x.zM (rg s x.A) b x.zF false).2≠0 then .error 2 else .ok (s.At+1,updR s x.R ⟨(zf5 x.zM (rg s x.A) b x.zF false).1.N,x.zF.Scale⟩)):=by
 cases x;cases hop;rfl
theorem hx_4 (N:Nat) (M:zG) {x:zA} (hop:x.Op=4):ze N M x=(cond x.zO ((zcb N M x.Place x.Second).bind fun r1=>cond (!r1.2.1) (some r1.2.2) ((idx r1.2.2.zC.Registers x.A).bind fun x2=>
 (zda N x.zM x2 r1.1 x.zF false).bind fun r3=>(zh r1.2.2 (r3.2==20) 3).bind fun r4=>
 cond r4.1 ((zh r4.2 (r3.2 !=0) 2).bind fun r5=>cond r5.1 ((zap r5.2 x.R (⟨r3.1.N,x.zF.Scale⟩:Number)).bind fun r6=>some r6)
 (some r5.2)) (some r4.2))) ((idx M.zC.Registers x.B).bind fun x7=>(idx M.zC.Registers x.A).bind fun x8=>
 (zda N x.zM x8 x7 x.zF false).bind fun r9=>(zh M (r9.2==20) 3).bind fun r10=>
 cond r10.1 ((zh r10.2 (r9.2 !=0) 2).bind fun r11=>cond r11.1 ((zap r11.2 x.R (⟨r9.1.N,x.zF.Scale⟩:Number)).bind fun r12=>
 some r12) (some r11.2)) (some r10.2))).bind fun r=>some (w6 (r.zC.At+1),r):=by
 cases x;cases hop;rfl
theorem rx_4 (N:Nat) {x:zA} (hop:x.Op=4) (hi:idx c.zB s.At=some x):zf N c s=(cond x.zO ((zkf N s x.Place x.Second).bind fun r17=>cond (r17.2 !=0) (some (r17.2,s))
 (if 0≤x.A then(if x.A<(s.Registers.length:Int)then((s.Registers[x.A.toNat]?).bind fun x18=>
 (zhk N (⟨x.zM,x.zF,false⟩:yB) x18 r17.1).bind fun r19=>cond (r19.2==20) (some (3,s)) (cond (r19.2 !=0) (some (2,s)) (if 0≤x.R then(if x.R<(s.Registers.length:Int)then((s.Registers[x.R.toNat]?).bind fun _=>some (0,updR s x.R ⟨r19.1.N,x.zF.Scale⟩))else none)else none)))else none)else none))
 (if 0≤x.B then(if x.B<(s.Registers.length:Int)then((s.Registers[x.B.toNat]?).bind fun x21=>
 if 0≤x.A then(if x.A<(s.Registers.length:Int)then((s.Registers[x.A.toNat]?).bind fun x22=>
 (zhk N (⟨x.zM,x.zF,false⟩:yB) x22 x21).bind fun r19=>cond (r19.2==20) (some (3,s)) (cond (r19.2 !=0) (some (2,s)) (if 0≤x.R then(if x.R<(s.Registers.length:Int)then((s.Registers[x.R.toNat]?).bind fun _=>some (0,updR s x.R ⟨r19.1.N,x.zF.Scale⟩))else none)else none)))else none)else none)else none)else none)).bind fun r=>some (w6 (s.At+1),r.1,r.2):=by
 unfold zf
 rw [hi,obs]
 clear hi
 cases x;cases hop;rfl
theorem zaj6 (N:Nat) (hN:20000<N) (hc:CodeV m c) (hs:StV m c s) {x:zA} (hx:c.zB[s.At.toNat]?=some x) (hop:x.Op=4):zdh N m c s x:=by
 have hi:idx c.zB s.At=some x:=by unfold idx;rw [ifp hs.at0,hx]
 have m8:=hc.m2
 have a0:=hs.at0
 have a1:=hs.at1
 have n240:=hc.len
 have wn1:w6 (s.At+1)=s.At+1:=w6e
 unfold zdh
 rw [ex_4 s hop,hx_4 N _ hop,rx_4 N hop hi]
 by_cases hst:x.zO=true
 · have iv:=zgc hc (lmg hx) hop (U:=⟨true,true,false,true,false,false,false,true,false,false,false,false,false,false,1,1⟩) (by rw [hst];rfl);obtain⟨f1,f2,f3,f4,f5⟩:=zg7 hs (iv.a rfl);have hp:zc8 s.Storage x.Place (szE x.Second)=true:=by rw [zfj hs.size];have:=iv.pl rfl;unfold zd4 at this;rw [ifp hop]at this;exact this
   rw [hst];simp only [ctr,if_true];rcases z6k N (by omega) s c hs.sto (iv.se1 rfl) hp with⟨e,b,k,he,h1,h2,h3⟩|⟨n,h1,h2,h3,h4⟩
   · rw [h1,h2,h3];refine .inl ⟨e,_,w6 (s.At+1),s,rfl,by omega,rfl,?_⟩;rcases he with rfl|rfl|rfl<;>rfl
   · rw [h1,h2,h3];simp only [obs,bnt,cfa,bsf];rw [f4,ifp f1,ifp f2,f3];simp only [obs];rcases z74 (c:=c) N hN hs m8 (iv.r rfl) (iv.a rfl) (iv.ty1 rfl) (iv.ca rfl) h4 with⟨e,he,k1,k2,k3⟩|⟨n,hn,k1,k2,k3⟩
     · rw [k1,k2,k3];exact .inl ⟨e,_,w6 (s.At+1),s,rfl,by omega,rfl,rfl⟩
     · rw [k1,k2,k3];refine .inr ⟨_,_,_,rfl,?_,?_,fun _=>⟨rfl,by omega,by omega⟩,hs.updR hn,rfl,rfl,rfl⟩
       · show some (w6 (s.At+1),_)=_;rw [wn1]
       · show some (w6 (s.At+1),_)=_;rw [wn1]
 · have hst':x.zO=false:=by simpa using hst
   have iv:=zgc hc (lmg hx) hop (U:=⟨true,true,true,false,false,false,false,true,false,false,false,false,false,false,1,0⟩) (by rw [hst'];rfl);obtain⟨f1,f2,f3,f4,f5⟩:=zg7 hs (iv.a rfl);obtain⟨b1,b2,b3,b4,b5⟩:=zg7 hs (iv.b rfl);rw [hst'];simp only [cfa,Bool.false_eq_true,if_false];rw [b4,obs,f4,ifp b1,ifp b2,b3];simp only [obs];rw [ifp f1,ifp f2,f3];simp only [obs];rcases z74 (c:=c) N hN hs m8 (iv.r rfl) (iv.a rfl) (iv.ty1 rfl) (iv.ca rfl) b5 with⟨e,he,k1,k2,k3⟩|⟨n,hn,k1,k2,k3⟩
   · rw [k1,k2,k3];exact .inl ⟨e,_,w6 (s.At+1),s,rfl,by omega,rfl,rfl⟩
   · rw [k1,k2,k3];refine .inr ⟨_,_,_,rfl,?_,?_,fun _=>⟨rfl,by omega,by omega⟩,hs.updR hn,rfl,rfl,rfl⟩
     · show some (w6 (s.At+1),_)=_;rw [wn1]
     · show some (w6 (s.At+1),_)=_;rw [wn1]
theorem ex_6 (s:zC) {x:zA} (hop:x.Op=6):zad s x=(.ok (cond (zg .i64 s.Condition x.Mask !=0) x.Target (s.At+1),s)):=by
 cases x;cases hop;rfl
theorem hx_6 (N:Nat) (M:zG) {x:zA} (hop:x.Op=6):ze N M x=(cond ((zg .i64 M.zC.Condition x.Mask) !=0) (some (x.Target,M)) (some ((w6 (M.zC.At+1)),M))).bind fun r=>some (r.1,r.2):=by
 cases x;cases hop;rfl
theorem rx_6 (N:Nat) {x:zA} (hop:x.Op=6) (hi:idx c.zB s.At=some x):zf N c s=cond ((zg .i64 x.Mask s.Condition) !=0) (some (x.Target,0,s)) (some ((w6 (s.At+1)),0,s)):=by
 unfold zf
 rw [hi,obs]
 clear hi
 cases x;cases hop;rfl
theorem zaj4 (N:Nat) (hN:20000<N) (hc:CodeV m c) (hs:StV m c s) {x:zA} (hx:c.zB[s.At.toNat]?=some x) (hop:x.Op=6):zdh N m c s x:=by
 have iv:=zgc hc (lmg hx) hop (U:=⟨false,false,false,false,false,false,false,false,true,true,false,false,false,false,0,0⟩) rfl
 have hi:idx c.zB s.At=some x:=by unfold idx;rw [ifp hs.at0,hx]
 have m8:=hc.m2
 have a0:=hs.at0
 have a1:=hs.at1
 have n240:=hc.len
 have wn1:w6 (s.At+1)=s.At+1:=w6e
 unfold zdh
 rw [ex_6 s hop,hx_6 N _ hop,rx_6 N hop hi]
 have ht:=iv.tg rfl
 rw [z4p x.Mask s.Condition]
 simp only [wn1]
 cases(zg .i64 s.Condition x.Mask !=0)with
 | true=>exact .inr ⟨_,_,_,rfl,rfl,rfl,fun _=>⟨rfl,by show 0≤x.Target;omega,by show x.Target≤_;omega⟩,hs,rfl,rfl,rfl⟩
 | false=>exact .inr ⟨_,_,_,rfl,rfl,rfl,fun _=>⟨rfl,by show 0≤s.At+1;omega,by show s.At+1≤_;omega⟩,hs,rfl,rfl,rfl⟩
theorem ex_7 (s:zC) {x:zA} (hop:x.Op=7):zad s x=(.ok (cond (zg .i64 (zke s x.A x.B) x.Mask !=0) x.Target (s.At+1),s)):=by
 cases x;cases hop;rfl
theorem hx_7 (N:Nat) (M:zG) {x:zA} (hop:x.Op=7):ze N M x=((za8 N M x).bind fun r3=>cond ((zg .i64 r3 x.Mask) !=0) (some (x.Target,M)) (some ((w6 (M.zC.At+1)),M))).bind fun r=>some (r.1,r.2):=by
 cases x;cases hop;rfl
theorem rx_7 (N:Nat) {x:zA} (hop:x.Op=7) (hi:idx c.zB s.At=some x):zf N c s=if 0≤x.A then(if x.A<(s.Registers.length:Int)then((s.Registers[x.A.toNat]?).bind fun x2=>
 if 0≤x.B then(if x.B<(s.Registers.length:Int)then((s.Registers[x.B.toNat]?).bind fun x3=>(zmt N x2 x3).bind fun r4=>(zk2 r4).bind fun r5=>
 cond ((zg .i64 x.Mask r5) !=0) (some (x.Target,0,s)) (some ((w6 (s.At+1)),0,s)))else none)else none)else none)else none:=by
 unfold zf
 rw [hi,obs]
 clear hi
 cases x;cases hop;rfl
theorem zaj3 (N:Nat) (hN:20000<N) (hc:CodeV m c) (hs:StV m c s) {x:zA} (hx:c.zB[s.At.toNat]?=some x) (hop:x.Op=7):zdh N m c s x:=by
 have iv:=zgc hc (lmg hx) hop (U:=⟨false,true,true,false,false,false,false,false,true,true,false,false,false,false,0,0⟩) rfl
 have hi:idx c.zB s.At=some x:=by unfold idx;rw [ifp hs.at0,hx]
 have m8:=hc.m2
 have a0:=hs.at0
 have a1:=hs.at1
 have n240:=hc.len
 have wn1:w6 (s.At+1)=s.At+1:=w6e
 unfold zdh
 rw [ex_7 s hop,hx_7 N _ hop,rx_7 N hop hi]
 have ht:=iv.tg rfl
 obtain⟨g1,g2,g3,g4,g5⟩:=zg7 hs (iv.b rfl)
 obtain⟨f1,f2,f3,f4,f5⟩:=zg7 hs (iv.a rfl)
 rw [z34 N (by omega) hs x (iv.a rfl) (iv.b rfl),ifp f1,ifp f2,f3,obs,obs,ifp g1,ifp g2,g3,obs,z56 N (by omega) f5 g5,obs,z54,obs]
 rw [show zqz (z6j (zdc (rg s x.A) (zaw (rg s x.A) (rg s x.B))) (zdc (rg s x.B) (zaw (rg s x.A) (rg s x.B))))=zke s x.A x.B from rfl,z4p x.Mask]
 simp only [wn1]
 cases(zg .i64 (zke s x.A x.B) x.Mask !=0)with
 | true=>exact .inr ⟨_,_,_,rfl,rfl,rfl,fun _=>⟨rfl,by show 0≤x.Target;omega,by show x.Target≤_;omega⟩,hs,rfl,rfl,rfl⟩
 | false=>exact .inr ⟨_,_,_,rfl,rfl,rfl,fun _=>⟨rfl,by show 0≤s.At+1;omega,by show s.At+1≤_;omega⟩,hs,rfl,rfl,rfl⟩
theorem ex_8 (s:zC) {x:zA} (hop:x.Op=8):zad s x=(.ok (x.Target,s)):=by
 cases x;cases hop;rfl
theorem hx_8 (N:Nat) (M:zG) {x:zA} (hop:x.Op=8):ze N M x=some (x.Target,M):=by
 cases x;cases hop;rfl
theorem rx_8 (N:Nat) {x:zA} (hop:x.Op=8) (hi:idx c.zB s.At=some x):zf N c s=some (x.Target,0,s):=by
 unfold zf
 rw [hi,obs]
 clear hi
 cases x;cases hop;rfl
theorem zaj2 (N:Nat) (hN:20000<N) (hc:CodeV m c) (hs:StV m c s) {x:zA} (hx:c.zB[s.At.toNat]?=some x) (hop:x.Op=8):zdh N m c s x:=by
 have iv:=zgc hc (lmg hx) hop (U:=⟨false,false,false,false,false,false,false,false,false,true,false,false,false,false,0,0⟩) rfl
 have hi:idx c.zB s.At=some x:=by unfold idx;rw [ifp hs.at0,hx]
 have m8:=hc.m2
 have a0:=hs.at0
 have a1:=hs.at1
 have n240:=hc.len
 have wn1:w6 (s.At+1)=s.At+1:=w6e
 unfold zdh
 rw [ex_8 s hop,hx_8 N _ hop,rx_8 N hop hi]
 have ht:=iv.tg rfl
 exact .inr ⟨_,_,_,rfl,rfl,rfl,fun _=>⟨rfl,by omega,by omega⟩,hs,rfl,rfl,rfl⟩
theorem z6n (N:Nat) (hN:20000<N) (hc:CodeV m c) (hs:StV m c s) {p:zN} {t:DataType} (ht:zce t=0) (hk:t.Kind=0) (hp:zc8 s.Storage p (szE t)=true) (b:ByteArray) (hb:b.size≤5000):
 (∃e,(e=4∨e=5)∧zfa s.Storage p (szE t)= .error e∧
  ((zee b t.Length).bind fun r4=>if 0≤t.Length∧t.Length≤(r4.size:Int)then(if 0≤(0:Int)∧(0:Int)≤t.Length then((zbs N ⟨s,c,0⟩ p (r4.extract (0:Int).toNat t.Length.toNat)).bind fun r5=>some r5)else none)else none)=some ⟨s,c,e⟩∧
  (((zd7 N s p (szE t)).bind fun r12=>cond (r12.2 !=0) (some (r12.2,s)) ((ziy N b (szE t)).bind fun r13=>(zht N s.Storage r12.1 r13).bind fun r14=>some (0,updS s r14)))=some (e,s)))∨
 ∃a,zfa s.Storage p (szE t)= .ok a∧StV m c (updS s (wrV s.Storage a.toNat (zle b t.Length.toNat)))∧
  ((zee b t.Length).bind fun r4=>if 0≤t.Length∧t.Length≤(r4.size:Int)then(if 0≤(0:Int)∧(0:Int)≤t.Length then((zbs N ⟨s,c,0⟩ p (r4.extract (0:Int).toNat t.Length.toNat)).bind fun r5=>some r5)else none)else none)=some ⟨updS s (wrV s.Storage a.toNat (zle b t.Length.toNat)),c,0⟩∧
  (((zd7 N s p (szE t)).bind fun r12=>cond (r12.2 !=0) (some (r12.2,s)) ((ziy N b (szE t)).bind fun r13=>(zht N s.Storage r12.1 r13).bind fun r14=>some (0,updS s r14)))=some (0,updS s (wrV s.Storage a.toNat (zle b t.Length.toNat)))):=by
 have hsz:=zh4 ht
 have hle:szE t=t.Length:=by unfold szE;rw [ifn,ifn,ifn]
 have hL:t.Length=((t.Length.toNat:Nat):Int):=by omega
 have hpad:=z2a b hb t.Length.toNat (by omega)
 rw [←hL]at hpad
 rw [hpad,obs]
 have hps:(⟨(bl b++List.replicate (t.Length.toNat-b.size) 32).toArray⟩:ByteArray).size=b.size+(t.Length.toNat-b.size):=by
  show(bl b++List.replicate (t.Length.toNat-b.size) 32).length=_;rw [lna,lnr,zcy]
 rw [ifp ⟨by omega,by rw [hps];omega⟩,ifp,show(0:Int).toNat=0 from rfl,z36]
 have hrp:ziy N b (szE t)=some (zle b t.Length.toNat):=by
  have h:=zach N (by omega) b hb t.Length.toNat (by omega);rw [←hL]at h;rw [hle];exact h
 unfold zbs
 have hpz:((zle b t.Length.toNat).size:Int)=szE t:=by rw [zq7];omega
 rw [hpz]
 rcases ztl N (by omega) s c hs.sto hp hsz.1 hsz.2 with⟨e,j,k,he,h1,h2,h3⟩|⟨a,h1,h2,h3,h4,h5⟩
 · left;rw [h1,h2,h3];refine⟨e,he,rfl,rfl,?_⟩;rcases he with rfl|rfl<;>rfl
 · right;rw [h1,h2,h3];obtain⟨a,rfl⟩:∃k:Nat,a=(k:Int):=⟨a.toNat,by omega⟩;have hw:a+(zle b t.Length.toNat).size≤s.Storage.Bytes.size:=by omega
   have hw0:0<(zle b t.Length.toNat).size:=by omega
   refine⟨_,rfl,hs.updS (z44 hs.sto hw hw0) (zu9 hw),?_,?_⟩
   · simp only [obs,ctr];rw [zzz N (by omega) hs.sto hw hw0];rfl
   · simp only [obs,bsf,cfa];rw [hrp];simp only [obs];rw [z51 N (by omega) hs.sto hw hw0];rfl
theorem ex_9 (s:zC) {x:zA} (hop:x.Op=9):zad s x=(match zgz s.Storage x.From x.Second with
 | .error e=> .error e
 | .ok b=>match zfa s.Storage x.Place (szE x.zF)with| .error e=> .error e| .ok a=> .ok (s.At+1,updS s (wrV s.Storage a.toNat (zle b x.zF.Length.toNat)))):=by
 cases x;cases hop;rfl
theorem hx_9 (N:Nat) (M:zG) {x:zA} (hop:x.Op=9):ze N M x=((zaf N M x.From x.Second).bind fun r1=>cond r1.2.1 ((zee r1.1 x.zF.Length).bind fun r4=>if 0≤x.zF.Length∧x.zF.Length≤(r4.size:Int)then(if 0≤(0:Int)∧(0:Int)≤x.zF.Length then((zbs N r1.2.2 x.Place (r4.extract (0:Int).toNat x.zF.Length.toNat)).bind fun r5=>some r5)else none)else none) (some r1.2.2)).bind fun r=>some (w6 (r.zC.At+1),r):=by
 cases x;cases hop;rfl
theorem rx_9 (N:Nat) {x:zA} (hop:x.Op=9) (hi:idx c.zB s.At=some x):zf N c s=((zdp x.zF).bind fun r1=>(zfw N s x.From x.Second).bind fun r8=>cond (r8.2 !=0) (some (r8.2,s)) ((zd7 N s x.Place r1).bind fun r12=>cond (r12.2 !=0) (some (r12.2,s)) ((ziy N r8.1 r1).bind fun r13=>(zht N s.Storage r12.1 r13).bind fun r14=>some (0,updS s r14)))).bind fun r=>some (w6 (s.At+1),r.1,r.2):=by
 unfold zf
 rw [hi,obs]
 clear hi
 cases x;cases hop;rfl
theorem zaj1 (N:Nat) (hN:20000<N) (hc:CodeV m c) (hs:StV m c s) {x:zA} (hx:c.zB[s.At.toNat]?=some x) (hop:x.Op=9):zdh N m c s x:=by
 have iv:=zgc hc (lmg hx) hop (U:=⟨false,false,false,true,true,false,false,false,false,false,false,false,false,false,2,2⟩) rfl
 have hi:idx c.zB s.At=some x:=by unfold idx;rw [ifp hs.at0,hx]
 have m8:=hc.m2
 have a0:=hs.at0
 have a1:=hs.at1
 have n240:=hc.len
 have wn1:w6 (s.At+1)=s.At+1:=w6e
 unfold zdh
 rw [ex_9 s hop,hx_9 N _ hop,rx_9 N hop hi]
 have hp:zc8 s.Storage x.Place (szE x.zF)=true:=by rw [zfj hs.size];have:=iv.pl rfl;unfold zd4 at this;rw [ifn]at this;exact this
 have hf:zc8 s.Storage x.From (szE x.Second)=true:=by rw [zfj hs.size];exact iv.fr rfl
 rw [zmr (iv.ty2 rfl).1,obs]
 have hz2:=zh4 (iv.se2 rfl).1
 rcases zo0 N (by omega) s c hs.sto (iv.se2 rfl).1 hf with⟨e,b,k,he,h1,h2,h3⟩|⟨b,h1,h2,h3,h4⟩
 · rw [h1,h2,h3];refine .inl ⟨e,_,w6 (s.At+1),s,rfl,by omega,rfl,?_⟩;rcases he with rfl|rfl<;>rfl
 · rw [h1,h2,h3];simp only [obs,ctr,bsf,cfa];rcases z6n N hN hc hs (iv.ty2 rfl).1 (iv.ty2 rfl).2 hp b (by omega)with⟨e,he,k1,k2,k3⟩|⟨a,k1,k4,k2,k3⟩
   · rw [k1,k2,k3];exact .inl ⟨e,_,w6 (s.At+1),s,rfl,by omega,rfl,rfl⟩
   · rw [k1,k2,k3];refine .inr ⟨_,_,_,rfl,?_,?_,fun _=>⟨rfl,by omega,by omega⟩,k4,rfl,rfl,rfl⟩
     · show some (w6 (s.At+1),_)=_;rw [wn1]
     · show some (w6 (s.At+1),_)=_;rw [wn1]
theorem zamz (s:zC) {x:zA} (hop:x.Op=10):zad s x=(match zfa s.Storage x.Place (szE x.zF)with| .error e=> .error e| .ok a=> .ok (s.At+1,updS s (wrV s.Storage a.toNat (zle x.Text x.zF.Length.toNat)))):=by
 cases x;cases hop;rfl
theorem zame (N:Nat) (M:zG) {x:zA} (hop:x.Op=10):ze N M x=((zee x.Text x.zF.Length).bind fun r4=>if 0≤x.zF.Length∧x.zF.Length≤(r4.size:Int)then(if 0≤(0:Int)∧(0:Int)≤x.zF.Length then((zbs N M x.Place (r4.extract (0:Int).toNat x.zF.Length.toNat)).bind fun r5=>some r5)else none)else none).bind fun r=>some (w6 (r.zC.At+1),r):=by
 cases x;cases hop;rfl
theorem zak7 (N:Nat) {x:zA} (hop:x.Op=10) (hi:idx c.zB s.At=some x):zf N c s=((zdp x.zF).bind fun r1=>(zd7 N s x.Place r1).bind fun r12=>cond (r12.2 !=0) (some (r12.2,s)) ((ziy N x.Text r1).bind fun r13=>(zht N s.Storage r12.1 r13).bind fun r14=>some (0,updS s r14))).bind fun r=>some (w6 (s.At+1),r.1,r.2):=by
 unfold zf
 rw [hi,obs]
 clear hi
 cases x;cases hop;rfl
theorem zaie (N:Nat) (hN:20000<N) (hc:CodeV m c) (hs:StV m c s) {x:zA} (hx:c.zB[s.At.toNat]?=some x) (hop:x.Op=10):zdh N m c s x:=by
 have iv:=zgc hc (lmg hx) hop (U:=⟨false,false,false,true,false,false,false,false,false,false,true,false,false,false,2,0⟩) rfl
 have hi:idx c.zB s.At=some x:=by unfold idx;rw [ifp hs.at0,hx]
 have m8:=hc.m2
 have a0:=hs.at0
 have a1:=hs.at1
 have n240:=hc.len
 have wn1:w6 (s.At+1)=s.At+1:=w6e
 unfold zdh
 rw [zamz s hop,zame N _ hop,zak7 N hop hi]
 have hp:zc8 s.Storage x.Place (szE x.zF)=true:=by rw [zfj hs.size];have:=iv.pl rfl;unfold zd4 at this;rw [ifn]at this;exact this
 have htx:=iv.tx
 rw [zmr (iv.ty2 rfl).1,obs]
 rcases z6n N hN hc hs (iv.ty2 rfl).1 (iv.ty2 rfl).2 hp x.Text (by omega)with⟨e,he,k1,k2,k3⟩|⟨a,k1,k4,k2,k3⟩
 · rw [k1,k2,k3];exact .inl ⟨e,_,w6 (s.At+1),s,rfl,by omega,rfl,rfl⟩
 · rw [k1,k2,k3];refine .inr ⟨_,_,_,rfl,?_,?_,fun _=>⟨rfl,by omega,by omega⟩,k4,rfl,rfl,rfl⟩
   · show some (w6 (s.At+1),_)=_;rw [wn1]
   · show some (w6 (s.At+1),_)=_;rw [wn1]
theorem zamy (s:zC) {x:zA} (hop:x.Op=11):zad s x=(match zgz s.Storage x.Place x.zF with
 | .error e=> .error e
 | .ok a=>match zgz s.Storage x.From x.Second with| .error e=> .error e| .ok b=> .ok (s.At+1,updC s (zm8 a b))):=by
 cases x;cases hop;rfl
theorem zamd (N:Nat) (M:zG) {x:zA} (hop:x.Op=11):ze N M x=((zaf N M x.Place x.zF).bind fun r1=>(cond r1.2.1 (some true) (some false)).bind fun g2=>cond g2 ((zaf N r1.2.2 x.From x.Second).bind fun r3=>cond r3.2.1 ((zdf r1.1 r3.1).bind fun r4=>some (⟨updC r3.2.2.zC r4,r3.2.2.code,r3.2.2.raised⟩:zG)) (some r3.2.2)) (cond r1.2.1 ((zdf r1.1 x.Text).bind fun r5=>some (⟨updC r1.2.2.zC r5,r1.2.2.code,r1.2.2.raised⟩:zG)) (some r1.2.2))).bind fun r=>some (w6 (r.zC.At+1),r):=by
 cases x;cases hop;rfl
theorem zak6 (N:Nat) {x:zA} (hop:x.Op=11) (hi:idx c.zB s.At=some x):zf N c s=((zdp x.zF).bind fun r1=>(zfw N s x.Place x.zF).bind fun r5=>cond (r5.2 !=0) (some (r5.2,s)) ((zfw N s x.From x.Second).bind fun r6=>cond (r6.2 !=0) (some (r6.2,s)) ((zld N r5.1 r6.1).bind fun r7=>some (0,updC s r7)))).bind fun r=>some (w6 (s.At+1),r.1,r.2):=by
 unfold zf
 rw [hi,obs]
 clear hi
 cases x;cases hop;rfl
theorem zaid (N:Nat) (hN:20000<N) (hc:CodeV m c) (hs:StV m c s) {x:zA} (hx:c.zB[s.At.toNat]?=some x) (hop:x.Op=11):zdh N m c s x:=by
 have iv:=zgc hc (lmg hx) hop (U:=⟨false,false,false,true,true,false,false,false,false,false,false,false,false,false,2,2⟩) rfl
 have hi:idx c.zB s.At=some x:=by unfold idx;rw [ifp hs.at0,hx]
 have m8:=hc.m2
 have a0:=hs.at0
 have a1:=hs.at1
 have n240:=hc.len
 have wn1:w6 (s.At+1)=s.At+1:=w6e
 unfold zdh
 rw [zamy s hop,zamd N _ hop,zak6 N hop hi]
 have hp:zc8 s.Storage x.Place (szE x.zF)=true:=by rw [zfj hs.size];have:=iv.pl rfl;unfold zd4 at this;rw [ifn]at this;exact this
 have hf:zc8 s.Storage x.From (szE x.Second)=true:=by rw [zfj hs.size];exact iv.fr rfl
 rw [zmr (iv.ty2 rfl).1,obs]
 have hz1:=zh4 (iv.ty2 rfl).1
 have hz2:=zh4 (iv.se2 rfl).1
 rcases zo0 N (by omega) s c hs.sto (iv.ty2 rfl).1 hp with⟨e,b,k,he,h1,h2,h3⟩|⟨b,h1,h2,h3,h4⟩
 · rw [h1,h2,h3];refine .inl ⟨e,_,w6 (s.At+1),s,rfl,by omega,rfl,?_⟩;rcases he with rfl|rfl<;>rfl
 · rw [h1,h2,h3];simp only [obs,ctr,bsf,cfa];rcases zo0 N (by omega) s c hs.sto (iv.se2 rfl).1 hf with⟨e,d,k,he,k1,k2,k3⟩|⟨d,k1,k2,k3,k4⟩
   · rw [k1,k2,k3];refine .inl ⟨e,_,w6 (s.At+1),s,rfl,by omega,rfl,?_⟩;rcases he with rfl|rfl<;>rfl
   · rw [k1,k2,k3];refine .inr ⟨_,_,_,rfl,?_,?_,fun _=>⟨rfl,by omega,by omega⟩,hs.updC (zqy _),rfl,rfl,rfl⟩
     · simp only [obs,ctr];rw [zwb b d (by omega) (by omega)];show some (w6 (s.At+1),_)=_;rw [wn1]
     · simp only [obs,bsf,cfa];rw [z0c N (by omega) b d (by omega) (by omega)];show some (w6 (s.At+1),_)=_;rw [wn1]
theorem zamx (s:zC) {x:zA} (hop:x.Op=12):zad s x=(match zgz s.Storage x.Place x.zF with| .error e=> .error e| .ok a=> .ok (s.At+1,updC s (zm8 a x.Text))):=by
 cases x;cases hop;rfl
theorem zamc (N:Nat) (M:zG) {x:zA} (hop:x.Op=12):ze N M x=((zaf N M x.Place x.zF).bind fun r1=>(cond r1.2.1 (some false) (some false)).bind fun g2=>cond g2 ((zaf N r1.2.2 x.From x.Second).bind fun r3=>cond r3.2.1 ((zdf r1.1 r3.1).bind fun r4=>some (⟨updC r3.2.2.zC r4,r3.2.2.code,r3.2.2.raised⟩:zG)) (some r3.2.2)) (cond r1.2.1 ((zdf r1.1 x.Text).bind fun r5=>some (⟨updC r1.2.2.zC r5,r1.2.2.code,r1.2.2.raised⟩:zG)) (some r1.2.2))).bind fun r=>some (w6 (r.zC.At+1),r):=by
 cases x;cases hop;rfl
theorem zak5 (N:Nat) {x:zA} (hop:x.Op=12) (hi:idx c.zB s.At=some x):zf N c s=((zdp x.zF).bind fun r1=>(zfw N s x.Place x.zF).bind fun r5=>cond (r5.2 !=0) (some (r5.2,s)) ((zld N r5.1 x.Text).bind fun r7=>some (0,updC s r7))).bind fun r=>some (w6 (s.At+1),r.1,r.2):=by
 unfold zf
 rw [hi,obs]
 clear hi
 cases x;cases hop;rfl
theorem zaic (N:Nat) (hN:20000<N) (hc:CodeV m c) (hs:StV m c s) {x:zA} (hx:c.zB[s.At.toNat]?=some x) (hop:x.Op=12):zdh N m c s x:=by
 have iv:=zgc hc (lmg hx) hop (U:=⟨false,false,false,true,false,false,false,false,false,false,true,false,false,false,2,0⟩) rfl
 have hi:idx c.zB s.At=some x:=by unfold idx;rw [ifp hs.at0,hx]
 have m8:=hc.m2
 have a0:=hs.at0
 have a1:=hs.at1
 have n240:=hc.len
 have wn1:w6 (s.At+1)=s.At+1:=w6e
 unfold zdh
 rw [zamx s hop,zamc N _ hop,zak5 N hop hi]
 have hp:zc8 s.Storage x.Place (szE x.zF)=true:=by rw [zfj hs.size];have:=iv.pl rfl;unfold zd4 at this;rw [ifn]at this;exact this
 rw [zmr (iv.ty2 rfl).1,obs]
 have hz1:=zh4 (iv.ty2 rfl).1
 have htx:=iv.tx
 rcases zo0 N (by omega) s c hs.sto (iv.ty2 rfl).1 hp with⟨e,b,k,he,h1,h2,h3⟩|⟨b,h1,h2,h3,h4⟩
 · rw [h1,h2,h3];refine .inl ⟨e,_,w6 (s.At+1),s,rfl,by omega,rfl,?_⟩;rcases he with rfl|rfl<;>rfl
 · rw [h1,h2,h3];refine .inr ⟨_,_,_,rfl,?_,?_,fun _=>⟨rfl,by omega,by omega⟩,hs.updC (zqy _),rfl,rfl,rfl⟩
   · simp only [obs,ctr,cfa];rw [zwb b x.Text (by omega) (by omega)];show some (w6 (s.At+1),_)=_;rw [wn1]
   · simp only [obs,bsf,cfa];rw [z0c N (by omega) b x.Text (by omega) (by omega)];show some (w6 (s.At+1),_)=_;rw [wn1]
theorem zamw (s:zC) {x:zA} (hop:x.Op=13):zad s x=(.ok (s.At+1,updC s (zm8 x.Text x.Other))):=by
 cases x;cases hop;rfl
theorem zamb (N:Nat) (M:zG) {x:zA} (hop:x.Op=13):ze N M x=(zdf x.Text x.Other).bind fun r=>some (w6 (M.zC.At+1),⟨updC M.zC r,M.code,M.raised⟩):=by
 cases x;cases hop;rfl
theorem zak4 (N:Nat) {x:zA} (hop:x.Op=13) (hi:idx c.zB s.At=some x):zf N c s=((zdp x.zF).bind fun r1=>(zld N x.Text x.Other).bind fun r2=>some (0,updC s r2)).bind fun r=>some (w6 (s.At+1),r.1,r.2):=by
 unfold zf
 rw [hi,obs]
 clear hi
 cases x;cases hop;rfl
theorem zaib (N:Nat) (hN:20000<N) (hc:CodeV m c) (hs:StV m c s) {x:zA} (hx:c.zB[s.At.toNat]?=some x) (hop:x.Op=13):zdh N m c s x:=by
 have iv:=zgc hc (lmg hx) hop (U:=⟨false,false,false,false,false,false,false,false,false,false,true,true,false,false,0,0⟩) rfl
 have hi:idx c.zB s.At=some x:=by unfold idx;rw [ifp hs.at0,hx]
 have m8:=hc.m2
 have a0:=hs.at0
 have a1:=hs.at1
 have n240:=hc.len
 have wn1:w6 (s.At+1)=s.At+1:=w6e
 unfold zdh
 rw [zamw s hop,zamb N _ hop,zak4 N hop hi]
 have htx:=iv.tx
 have hot:=iv.ot
 have hsz:∃k,zdp x.zF=some k:=by
  unfold zdp;rw [zvn];cases(x.zF.Kind==1)<;>cases(x.zF.Kind==3)<;>cases(x.zF.Kind==4)<;>exact⟨_,rfl⟩
 obtain⟨k,hk⟩:=hsz
 rw [hk,obs,zwb _ _ (by omega) (by omega),z0c N (by omega) _ _ (by omega) (by omega)]
 refine .inr ⟨_,_,_,rfl,?_,?_,fun _=>⟨rfl,by omega,by omega⟩,hs.updC (zqy _),rfl,rfl,rfl⟩
 · show some (w6 (s.At+1),_)=_;rw [wn1]
 · show some (w6 (s.At+1),_)=_;rw [wn1]
end
end
end Go.Proofs.YtbmfjmakahmclaaGreatDoor.M
