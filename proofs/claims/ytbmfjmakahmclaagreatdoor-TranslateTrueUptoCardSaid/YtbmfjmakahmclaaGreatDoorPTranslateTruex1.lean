/- The plain law of TranslateTrue: part 1. -/
import Derived.Test.YtbmfjmakahmclaaGreatDoorPTranslateTruex0
namespace Go.Proofs.YtbmfjmakahmclaaGreatDoor.M
open Go Go.Amx
set_option linter.unusedVariables false
set_option linter.unusedSimpArgs false
set_option maxRecDepth 100000
noncomputable section
theorem z7r (a b:Nat):decide (zxi a b≥0)=decide (b≤a):=by
 unfold zxi
 by_cases h:a<b
 · rw [ifp h,dcf (show ¬b≤a by omega)];rfl
 · rw [ifn h,dct (show b≤a by omega)]
   by_cases h2:b<a
   · rw [ifp h2];rfl
   · rw [ifn h2];rfl
def zew (x:Number):Prop:=(-999999999999999≤x.N∧x.N≤999999999999999)∧0≤x.Scale∧x.Scale≤15
theorem zyh {x:Number}:zq8 x=0↔zew x:=by
 unfold zq8 zew
 cases h:(inB x.N (-999999999999999) 999999999999999&&inB x.Scale 0 15)with
 | true=>
  rw [Bool.and_eq_true,zaq,zaq]at h;simp [h]
 | false=>
  simp only [cfa];constructor
  · intro h2;cases h2
  · intro h2;rw [show(inB x.N (-999999999999999) 999999999999999)=true from zaq.2 h2.1,show inB x.Scale 0 15=true from zaq.2 h2.2]at h;cases h
def zij (t:DataType):Prop:=zb3 t=0∧1≤t.Kind∧t.Kind≤3
theorem zgb {t:DataType} (h:zij t):(1≤t.Length∧t.Length≤15)∧0≤t.Scale∧t.Scale≤t.Length:=by
 obtain⟨h0,h1,h2⟩:=h
 unfold zb3 at h0
 rw [ifn]at h0
 by_cases hk:t.Kind=3
 · rw [ifn,ifp hk]at h0;split at h0
   · split at h0
     · rename_i h3 h4;have:=zaq.1 h4;omega
     · cases h0
   · cases h0
 · rw [ifp]at h0;split at h0
   · split at h0
     · rename_i h3 h4;have:=zaq.1 h4;have:=zaq.1 h3;omega
     · cases h0
   · cases h0
theorem zdj {k m:Nat} (h:k≤m):10^k≤10^m:=Nat.pow_le_pow_right (by decide) h
theorem zee (k:Nat):0<10^k:=Nat.pow_pos (by decide)
def zi6 (b:Bool) (p q:Nat) (t:DataType) (half:Bool):Value × Int:=
 if 10^t.Length.toNat≤p*10^t.Scale.toNat/q+cond (half&&decide (q≤p*10^t.Scale.toNat%q+p*10^t.Scale.toNat%q)) 1 0 then(⟨0,⟨#[]⟩⟩,19)
 else(⟨cond b (-((p*10^t.Scale.toNat/q+cond (half&&decide (q≤p*10^t.Scale.toNat%q+p*10^t.Scale.toNat%q)) 1 0:Nat):Int)) ((p*10^t.Scale.toNat/q+cond (half&&decide (q≤p*10^t.Scale.toNat%q+p*10^t.Scale.toNat%q)) 1 0:Nat):Int),⟨#[]⟩⟩,0)
theorem z1c (b:Bool) (p q k:Nat) (hk:0<k) (hq:0<q) (t:DataType) (half:Bool):zi6 b (p*k) (q*k) t half=zi6 b p q t half:=by
 have e:p*k*10^t.Scale.toNat=p*10^t.Scale.toNat*k:=Nat.mul_right_comm _ _ _
 have e2:p*k*10^t.Scale.toNat/(q*k)=p*10^t.Scale.toNat/q:=by rw [e,Nat.mul_div_mul_right _ _ hk]
 have e3:decide (q*k≤p*k*10^t.Scale.toNat%(q*k)+p*k*10^t.Scale.toNat%(q*k))=decide (q≤p*10^t.Scale.toNat%q+p*10^t.Scale.toNat%q):=by
  rw [e,Nat.mul_mod_mul_right,←Nat.add_mul];simp only [decide_eq_decide];exact⟨fun h=>Nat.le_of_mul_le_mul_right h hk,fun h=>Nat.mul_le_mul_right k h⟩
 unfold zi6
 rw [e2,e3]
theorem z23 (b b':Bool) (p q:Nat) (hq:0<q) (t:DataType) (half:Bool) (h:p≠0→b=b'):zi6 b p q t half=zi6 b' p q t half:=by
 by_cases hp:p=0
 · subst hp;unfold zi6;simp only [Nat.zero_mul,Nat.zero_div,Nat.zero_mod,Nat.zero_add,dcf (show ¬q≤0 by omega),Bool.and_false,cfa];cases b<;>cases b'<;>rfl
 · rw [h hp]
def zz6 (p:Int) (q:Nat) (t:DataType) (half:Bool):Value × Int:=zi6 (decide (p<0)) p.natAbs q t half
theorem zags (b:Bool) (p q:Nat) (hq:0<q) (t:DataType) (half:Bool):zi6 b p q t half=zz6 (cond b (-(p:Int)) p) q t half:=by
 unfold zz6
 have:(cond b (-(p:Int)) (p:Int)).natAbs=p:=by cases b<;>simp
 rw [this]
 refine z23 _ _ _ _ hq _ _ fun h=> ?_
 cases b
 · symm;simp
 · symm;simp;omega
def zif (x:Number) (t:DataType) (half:Bool):Value × Int:=zz6 x.N (10^x.Scale.toNat) t half
def zbj (x:Number) (s:Int):Int:=x.N*10^(s-x.Scale).toNat
def zag (a b:Number):Int:=if b.Scale>a.Scale then b.Scale else a.Scale
theorem zlw (x:Number) (s:Int):(zbj x s).natAbs=x.N.natAbs*10^(s-x.Scale).toNat:=by
 unfold zbj
 rw [Int.natAbs_mul,Int.natAbs_pow]
 rfl
theorem z1d (k:Nat):(0:Int)<10^k:=Int.pow_pos (by decide)
theorem z8r (x:Number) (s:Int):(zbj x s<0)↔x.N<0:=by
 unfold zbj
 have:=z1d (s-x.Scale).toNat
 constructor
 · intro h;refine cbc fun h2=> ?_;have:=Int.mul_nonneg (show 0≤x.N by omega) (Int.le_of_lt this);omega
 · intro h;exact Int.mul_neg_of_neg_of_pos h this
theorem z6y (x:Number) (s:Int):zbj x s=0↔x.N=0:=by
 unfold zbj
 have:=z1d (s-x.Scale).toNat
 constructor
 · intro h;rcases Int.mul_eq_zero.1 h with h|h
   · exact h
   · omega
 · intro h;rw [h,Int.zero_mul]
theorem zsx {x:Number} (hx:zew x) {s:Int} (hs:s≤15):(zbj x s).natAbs≤10^30:=by
 obtain⟨⟨h1,h2⟩,h3,h4⟩:=hx
 rw [zlw]
 have:=Nat.mul_le_mul (show x.N.natAbs≤10^15 by omega) (zdj (k:=(s-x.Scale).toNat) (m:=15) (by omega))
 exact Nat.le_trans this (by decide)
theorem zvc {a b:Number} (ha:zew a) (hb:zew b):a.Scale≤zag a b∧b.Scale≤zag a b∧0≤zag a b∧zag a b≤15:=by
 obtain⟨_,a3,a4⟩:=ha
 obtain⟨_,b3,b4⟩:=hb
 unfold zag;split<;>omega
def z43 (a b:Int):Int:=if a<b then-1 else if b<a then 1 else 0
def zfo (op:Int) (a b:Number) (t:DataType) (half:Bool):Value × Int:=
 if(op=3∨op=4)∧b.N=0 then(⟨0,⟨#[]⟩⟩,20)
 else if op=0 then zz6 (zbj a (zag a b)+zbj b (zag a b)) (10^(zag a b).toNat) t half
 else if op=1 then zz6 (zbj a (zag a b)-zbj b (zag a b)) (10^(zag a b).toNat) t half
 else if op=2 then zi6 (decide (a.N<0) !=decide (b.N<0)) (a.N.natAbs*b.N.natAbs) (10^(a.Scale+b.Scale).toNat) t half
 else if op=3 then zi6 (decide (a.N<0) !=decide (b.N<0)) (a.N.natAbs*10^b.Scale.toNat) (b.N.natAbs*10^a.Scale.toNat) t half
 else zi6 (decide (a.N<0)) ((zbj a (zag a b)).natAbs%(zbj b (zag a b)).natAbs) (10^(zag a b).toNat) t half
def dv:List Int→Nat
 | []=>0
 | d::l=>d.toNat+10*dv l
def dok (l:List Int):Prop:=∀d∈l,0≤d∧d<10
def zoo (l:List Int):Prop:=l.getLast?≠some 0
def dg (n:Nat):List Int:=if n=0 then []else((n%10:Nat):Int)::dg (n/10)
termination_by n
decreasing_by omega
theorem zlk:dg 0=[]:=by rw [dg];rfl
theorem zpl {n:Nat} (h:n≠0):dg n=((n%10:Nat):Int)::dg (n/10):=by rw [dg,ifn h]
theorem z0k (n:Nat):dv (dg n)=n∧dok (dg n)∧zoo (dg n)∧(dg n=[]↔n=0):=by
 induction n using Nat.strongRecOn with
 | _ n ih=>
  by_cases h:n=0
  · subst h;rw [zlk];exact⟨rfl,fun d hd=>(List.not_mem_nil hd).elim,by unfold zoo;simp,by simp⟩
  · obtain⟨h1,h2,h3,h4⟩:=ih (n/10) (by omega);rw [zpl h];refine⟨?_,?_,?_,by simp [h]⟩
    · simp only [dv,h1,itn];omega
    · intro d hd;rcases List.mem_cons.1 hd with rfl|hd
      · omega
      · exact h2 d hd
    · unfold zoo at h3⊢;cases hl:dg (n/10)with
      | nil=>
       have:=h4.1 hl;simp only [List.getLast?_singleton,ne_eq,Option.some.injEq];omega
      | cons x l=>
       rw [hl]at h3;rw [List.getLast?_cons_cons];exact h3
theorem zk8 (n:Nat):dv (dg n)=n:=(z0k n).1
theorem zkp (n:Nat):dok (dg n):=(z0k n).2.1
theorem z75 (n:Nat):zoo (dg n):=(z0k n).2.2.1
theorem z1v:∀{l:List Int},dok l→zoo l→dg (dv l)=l
 | [],_,_=>zlk
 | d::l,h,hc=>by
  have hl:dok l:=fun x hx=>h x (List.mem_cons_of_mem _ hx);obtain⟨h0,h1⟩:=h d List.mem_cons_self;cases l with
  | nil=>
   unfold zoo at hc;simp only [List.getLast?_singleton,ne_eq,Option.some.injEq]at hc;have e:dv [d]=d.toNat:=by simp [dv]
   rw [e,zpl (by omega),show d.toNat/10=0 by omega,zlk,show((d.toNat%10:Nat):Int)=d by omega]
  | cons x l=>
   have hcl:zoo (x::l):=by
    unfold zoo at hc⊢;rw [List.getLast?_cons_cons]at hc;exact hc
   have ih:=z1v hl hcl;have hn:dv (x::l)≠0:=fun h=>by rw [h,zlk]at ih;cases ih
   have e:dv (d::x::l)=d.toNat+10*dv (x::l):=rfl;rw [e,zpl (by omega),show(d.toNat+10*dv (x::l))/10=dv (x::l)by omega,ih,show(((d.toNat+10*dv (x::l))%10:Nat):Int)=d by omega]
theorem zte:∀(a b:List Int),dv (a++b)=dv a+10^a.length*dv b
 | [],b=>by simp [dv]
 | d::a,b=>by
  simp only [List.cons_append,dv,zte a b,lnc,Nat.pow_succ];rw [Nat.mul_add,Nat.add_assoc,Nat.mul_comm (10^a.length) 10,Nat.mul_assoc]
theorem zsl:∀k:Nat,dv (List.replicate k (0:Int))=0
 | 0=>rfl
 | k+1=>by simp only [List.replicate_succ,dv,zsl k];rfl
theorem zq2 (k:Nat):dok (List.replicate k (0:Int)):=fun d hd=>by
 obtain⟨_,rfl⟩:=List.mem_replicate.1 hd
 omega
theorem zv7 {a b:List Int} (ha:dok a) (hb:dok b):dok (a++b):=fun d hd=>(List.mem_append.1 hd).elim (ha d) (hb d)
theorem z1t:∀{l:List Int},dok l→dv l<10^l.length
 | [],_=>by simp [dv]
 | d::l,h=>by
  have ih:=z1t (l:=l) fun x hx=>h x (List.mem_cons_of_mem _ hx);obtain⟨h0,h1⟩:=h d List.mem_cons_self;simp only [dv,lnc,Nat.pow_succ];omega
theorem zhy (n k:Nat):(dg n).length≤k↔n<10^k:=by
 induction k generalizing n with
 | zero=>
  by_cases h:n=0
  · rw [h,zlk];simp
  · rw [zpl h];simp;omega
 | succ k ih=>
  by_cases h:n=0
  · rw [h,zlk];simp [zee]
  · rw [zpl h,lnc,Nat.add_le_add_iff_right,ih (n/10),Nat.pow_succ];omega
theorem z59 (l:List Int) (i:Nat) (hi:i<l.length):dv l=dv (l.take i)+10^i*(l[i].toNat+10*dv (l.drop (i+1))):=by
 have h:=List.take_append_drop i l
 have e:l.drop i=l[i]::l.drop (i+1):=List.drop_eq_getElem_cons hi
 conv=>lhs;rw [←h,zte,e]
 simp only [dv,lnt,Nat.min_eq_left (Nat.le_of_lt hi)]
theorem z0j {l:List Int} (h:dok l) (i:Nat):dok (l.take i):=fun d hd=>h d (List.mem_of_mem_take hd)
theorem zadg {l:List Int} (h:dok l) (i:Nat):dok (l.drop i):=fun d hd=>h d (List.mem_of_mem_drop hd)
theorem zabp {a b:List Int} (ha:dok a) (hb:dok b) (i:Nat) (hi:i<a.length) (hj:i<b.length) (h:a.drop (i+1)=b.drop (i+1)) (hlt:a[i]<b[i]):dv a<dv b:=by
 rw [z59 a i hi,z59 b i hj,h]
 have l1:=z1t (z0j ha i)
 rw [lnt,Nat.min_eq_left (Nat.le_of_lt hi)]at l1
 obtain⟨x0,_⟩:=ha a[i] (List.getElem_mem hi)
 have:10^i*(a[i].toNat+10*dv (b.drop (i+1)))+10^i≤10^i*(b[i].toNat+10*dv (b.drop (i+1))):=by
  rw [←Nat.mul_succ];exact Nat.mul_le_mul_left _ (by omega)
 omega
theorem z1u {a b:Nat} (h:(dg a).length<(dg b).length):a<b:=by
 have h1:=(zhy a (dg a).length).1 (Nat.le_refl _)
 refine Nat.lt_of_lt_of_le h1 (cbc fun h2=> ?_)
 have:=(zhy b (dg a).length).2 (by omega)
 omega
def bl (b:ByteArray):List UInt8:=b.data.toList
theorem zc5 (b:ByteArray):(bl b).length=b.size:=rfl
theorem zi2 {a b:ByteArray} (h:bl a=bl b):a=b:=by
 cases a;cases b
 unfold bl at h
 simp only at h
 congr 1
 exact Array.toList_inj.1 h
theorem zl3 (b:ByteArray) (i:Nat):zil b (i:Int)=(bl b)[i]?:=by
 unfold zil bl
 rw [ifp]
 show b[i]?=_
 by_cases h:i<b.size
 · rw [getElem?_pos b i h,lge (by simpa using h)]
   congr 1
 · rw [getElem?_neg b i h,List.getElem?_eq_none (by simpa using h)]
theorem ze6 (b:ByteArray) (i j:Nat):bl (b.extract i j)=((bl b).take j).drop i:=by
 unfold bl
 rw [ByteArray.data_extract,Array.toList_extract,List.extract_eq_drop_take',List.drop_take]
theorem zfe (a b:ByteArray):bl (a++b)=bl a++bl b:=by
 unfold bl
 rw [ByteArray.data_append,Array.toList_append]
theorem zakk (l:List UInt8):bl ⟨l.toArray⟩=l:=rfl
def beV (l:List UInt8):Nat:=l.foldl (fun n c=>n*256+c.toNat) 0
theorem zwd (l:List UInt8) (x:UInt8):beV (l++[x])=beV l*256+x.toNat:=by
 unfold beV;rw [List.foldl_append];rfl
theorem z6n (l:List UInt8):beV l<256^l.length:=by
 have key:∀(l r:List UInt8),l=r.reverse→beV l<256^l.length:=by
  intro l r
  induction r generalizing l with
  | nil=>intro h;subst h;decide
  | cons x r ih=>
   intro h;rw [List.reverse_cons]at h;subst h;have:=ih _ rfl;rw [zwd,lna,lns,Nat.pow_succ];have:=x.toNat_lt;omega
 exact key l l.reverse (by simp)
theorem zhp {α:Type} (l:List α) (i:Nat) {x:α} (h:l[i]?=some x):l.take (i+1)=l.take i++[x]:=by
 obtain⟨h1,h2⟩:=gei h
 rw [List.take_succ_eq_append_getElem h1,h2]
theorem zge {α:Type} {l:List α} {i:Nat} (h:i<l.length):∃x,l[i]?=some x:=⟨_,lge h⟩
theorem or8 (n:Int) (c:Nat) (h1: -36028797018963968≤n) (h2:n<36028797018963968) (hc:c<256):orI .i64 (n*256) (c:Int)=n*256+c:=by
 unfold orI
 have e:(BitVec.ofInt IntKind.i64.bits (n*256)|||BitVec.ofInt IntKind.i64.bits (c:Int)).toNat=((n*256)%18446744073709551616).toNat+c:=by
  show(BitVec.ofInt 64 (n*256)|||BitVec.ofInt 64 (c:Int)).toNat=_;rw [BitVec.toNat_or,BitVec.ofInt_natCast,BitVec.toNat_ofNat,BitVec.toNat_ofInt,mel (by omega)];show((n*256)%18446744073709551616).toNat|||c=_;have:=Nat.two_pow_add_eq_or_of_lt (i:=8) (b:=c) hc (((n*256)%18446744073709551616).toNat/256);rw [show 2^8*(((n*256)%18446744073709551616).toNat/256)=((n*256)%18446744073709551616).toNat by omega]at this;exact this.symm
 rw [e]
 have k:(2:Int)^(IntKind.i64.bits)=18446744073709551616:=by decide
 have k':(2:Int)^(IntKind.i64.bits-1)=9223372036854775808:=by decide
 unfold IntKind.wrap
 simp only [k,k',show IntKind.i64.signed=true from rfl,Bool.true_and,decide_eq_true_eq,ge_iff_le]
 split<;>omega
theorem z38 (N:Nat) (hN:20<N) (b:ByteArray) (hb:b.size≤6):za3 N b=some (beV (bl b):Int):=by
 unfold za3
 have:=zco (f:=za3.r0 N) (fun i=>(b,((beV ((bl b).take i):Nat):Int),(b.size:Int),(i:Int))) b.size
  (fun i hi=>by
   obtain⟨x,hx⟩:∃x,(bl b)[i]?=some x:=zge (by rw [zc5];exact hi);have hl:=z6n ((bl b).take i);have hl2:256^((bl b).take i).length≤256^6:=Nat.pow_le_pow_right (by decide) (by rw [lnt,zc5];omega);have hc:=x.toNat_lt;simp only [za3.r0,za3.b0,dct (show(i:Int)<(b.size:Int)by omega),ctr,zl3,hx,obs];rw [show(2:Int)^(min (8:Int).toNat 64)=256 from rfl,w6e (n:=((beV ((bl b).take i):Nat):Int)*256),w6e (n:=(x.toNat:Int)),w6e (n:=(i:Int)+1),or8 _ _ (by omega) (by omega) hc,zhp _ _ hx,zwd];simp only [Int.natCast_add,Int.natCast_mul,Int.natCast_one];rfl)
  (by simp only [za3.r0,za3.b0,dcf (show ¬(b.size:Int)<(b.size:Int)by omega),cfa]) (N:=N) (by omega)
 simp only [List.take_zero,nc0]at this
 rw [show((beV []:Nat):Int)=0 from rfl]at this
 rw [this,←zc5,List.take_length]
 rfl
theorem zyd (N:Nat) (hN:20<N) (b:ByteArray) (k n:Nat) (hn:n≤6) (hk:k+n≤b.size) (hb:b.size<1000000):zbt N b (k:Int) (n:Int)=some (beV (((bl b).drop k).take n):Int):=by
 unfold zbt
 have:=zco (f:=zbt.r0 N) (fun i=>(b,(k:Int),(n:Int),((beV (((bl b).drop k).take i):Nat):Int),(i:Int))) n
  (fun i hi=>by
   have hlen:i<((bl b).drop k).length:=by rw [List.length_drop,zc5];omega
   obtain⟨x,hy⟩:∃x,((bl b).drop k)[i]?=some x:=zge hlen;have hx:(bl b)[k+i]?=some x:=by rw [←List.getElem?_drop];exact hy
   have hl:=z6n (((bl b).drop k).take i);have hl2:256^(((bl b).drop k).take i).length≤256^6:=Nat.pow_le_pow_right (by decide) (by rw [lnt];omega);have hc:=x.toNat_lt;simp only [zbt.r0,zbt.b0,dct (show(i:Int)<(n:Int)by omega),ctr];rw [w6e (n:=(k:Int)+(i:Int)),←Int.natCast_add,zl3,hx];simp only [obs];rw [w6e (n:=((beV (((bl b).drop k).take i):Nat):Int)*256),w6e (n:=(x.toNat:Int)),w6e (n:=(i:Int)+1),w6e,zhp _ _ hy,zwd];simp only [Int.natCast_add,Int.natCast_mul,Int.natCast_one];rfl)
  (by simp only [zbt.r0,zbt.b0,dcf (show ¬(n:Int)<(n:Int)by omega),cfa]) (N:=N) (by omega)
 simp only [List.take_zero,nc0]at this
 rw [show((beV []:Nat):Int)=0 from rfl]at this
 rw [this]
 rfl
def zir (v k:Nat):List Int:=(List.range k).map fun j=>((v/256^(k-1-j)%256:Nat):Int)
theorem zwc (v k:Nat):(zir v k).length=k:=by simp [zir]
def zhg (f:Nat→Int) (k i:Nat):List Int:=(List.range k).map fun j=>if k-i≤j then f (k-1-j)else 0
theorem zvo (f:Nat→Int) (k i:Nat):(zhg f k i).length=k:=by simp [zhg]
theorem zsz (f:Nat→Int) (k:Nat):zhg f k 0=List.replicate k (0:Int):=by
 unfold zhg
 refine List.ext_getElem? fun j=> ?_
 rw [List.getElem?_map,List.getElem?_replicate]
 by_cases h:j<k
 · rw [lge (by simpa using h),ifp h];simp only [List.getElem_range,Option.map_some];rw [ifn]
 · rw [List.getElem?_eq_none (by simpa using h),ifn h];rfl
theorem zs1 (f:Nat→Int) (k:Nat):zhg f k k=(List.range k).map fun j=>f (k-1-j):=by
 unfold zhg
 refine List.map_congr_left fun j _=> ?_
 rw [ifp]
theorem zs0 (f:Nat→Int) (k i:Nat) (h:i<k):(zhg f k i).set (k-1-i) (f i)=zhg f k (i+1):=by
 refine List.ext_getElem? fun j=> ?_
 rw [List.getElem?_set]
 unfold zhg
 simp only [lnm,List.length_range,List.getElem?_map]
 by_cases hj:j<k
 · rw [lge (by simpa using hj)];simp only [List.getElem_range,Option.map_some]
   by_cases he:k-1-i=j
   · rw [ifp he,ifp,ifp,show k-1-j=i by omega]
   · rw [ifn he]
     congr 1
     by_cases h2:k-i≤j
     · rw [ifp h2,ifp]
     · rw [ifn h2,ifn]
 · rw [List.getElem?_eq_none (by simpa using hj)]
   by_cases he:k-1-i=j
   · omega
   · rw [ifn he];rfl
def z0p:Pointer:=⟨0,⟨0,0⟩,0⟩
def zky (off:Int):Pointer:=⟨0,⟨1,off⟩,0⟩
def zt3 (p:Pointer):Int:=cond (!inB p.Kind 0 2) 4 (cond (!inB p.Address.yF 0 1099511627775||(!inB p.Address.Offset 0 16777215|| !inB p.Authority 0 1023)) 3 (cond (p.Authority !=0&&p.Kind !=1) 5 0))
theorem z97 (p:Pointer):zem p=some (zt3 p):=by
 unfold zem zt3
 simp only [zadw,obs,zne]
 generalize inB p.Kind 0 2=a
 generalize inB p.Address.yF 0 1099511627775=b
 generalize inB p.Address.Offset 0 16777215=c
 generalize inB p.Authority 0 1023=d
 generalize (p.Authority !=0&&p.Kind !=1)=e
 cases a<;>cases b<;>cases c<;>cases d<;>cases e<;>rfl
theorem zaas (p:Pointer):zfw p=some (zt3 p):=by
 unfold zfw zt3
 rw [Bool.and_comm (p.Authority !=0) (p.Kind !=1)]
 simp only [zg2,obs,zne,orB]
 generalize inB p.Kind 0 2=a
 generalize inB p.Address.yF 0 1099511627775=b
 generalize inB p.Address.Offset 0 16777215=c
 generalize inB p.Authority 0 1023=d
 generalize (p.Kind !=1&&p.Authority !=0)=e
 cases a<;>cases b<;>cases c<;>cases d<;>cases e<;>rfl
def zvp (l:List UInt8):Pointer:=⟨((l.getD 0 0).toNat:Nat),⟨(beV ((l.drop 4).take 6):Nat),(beV ((l.drop 10).take 6):Nat)⟩,(beV ((l.drop 2).take 2):Nat)⟩
def zp1 (l:List UInt8):Pointer × Int:=if(l.getD 1 0).toNat≠0 then(z0p,5)else if zt3 (zvp l)≠0 then(z0p,zt3 (zvp l))else(zvp l,0)
theorem zul {l:List UInt8} {i:Nat} (h:i<l.length):l[i]?=some (l.getD i 0):=by
 rw [gdd,lge h];rfl
theorem zagc (N:Nat) (hN:20<N) (b:ByteArray) (hb:b.size=16):zfs N b=some (zp1 (bl b)):=by
 have hl:(bl b).length=16:=hb
 have i1:zil b 1=some ((bl b).getD 1 0):=by rw [show(1:Int)=((1:Nat):Int)from rfl,zl3,zul (by omega)]
 have i0:zil b 0=some ((bl b).getD 0 0):=by rw [show(0:Int)=((0:Nat):Int)from rfl,zl3,zul (by omega)]
 have z1:(b.extract (2:Int).toNat (4:Int).toNat).size=2:=zdf b 2 4 (by omega) (by omega)
 have z2:(b.extract (4:Int).toNat (10:Int).toNat).size=6:=zdf b 4 10 (by omega) (by omega)
 have z3:(b.extract (10:Int).toNat b.size).size=6:=(zdf b 10 b.size (by omega) (by omega)).trans (by omega)
 have e1:=z38 N hN (b.extract (2:Int).toNat (4:Int).toNat) (by omega)
 have e2:=z38 N hN (b.extract (4:Int).toNat (10:Int).toNat) (by omega)
 have e3:=z38 N hN (b.extract (10:Int).toNat b.size) (by omega)
 rw [ze6,show(2:Int).toNat=2 from rfl,show(4:Int).toNat=4 from rfl,List.drop_take]at e1
 rw [ze6,show(4:Int).toNat=4 from rfl,show(10:Int).toNat=10 from rfl,List.drop_take]at e2
 rw [ze6,show(10:Int).toNat=10 from rfl,List.drop_take,hb]at e3
 unfold zfs
 rw [show((b.size:Int) !=16)=false by rw [hb];rfl]
 simp only [cfa,i1,i0,obs]
 by_cases h:((bl b).getD 1 0).toNat=0
 · rw [h,show((((0:Nat):Int)) !=0)=false from rfl,cfa];rw [ifp,ifp,show(2:Int).toNat=2 from rfl,show(4:Int).toNat=4 from rfl,e1];simp only [obs];rw [ifp,ifp,show(10:Int).toNat=10 from rfl,e2];simp only [obs];rw [ifp,hb,e3];simp only [obs];have hx:=((bl b).getD 0 0).toNat_lt;rw [w6e];rw [show(⟨(((bl b).getD 0 0).toNat:Int),⟨(beV (((bl b).drop 4).take (10-4)):Int),(beV (((bl b).drop 10).take (16-10)):Int)⟩,(beV (((bl b).drop 2).take (4-2)):Int)⟩:Pointer)=zvp (bl b)from rfl,z97];simp only [obs];unfold zp1;rw [ifn]
   by_cases h2:zt3 (zvp (bl b))=0
   · rw [h2];rfl
   · rw [ifp h2,zdq,dct h2];rfl
 · unfold zp1;rw [ifp h,zdq,dct (by omega)];rfl
theorem zaap (N:Nat) (hN:20<N) (b:ByteArray) (hb:b.size=16):zkv N b=some (zp1 (bl b)):=by
 have hl:(bl b).length=16:=hb
 have i1:zil b 1=some ((bl b).getD 1 0):=by rw [show(1:Int)=((1:Nat):Int)from rfl,zl3,zul (by omega)]
 have i0:zil b 0=some ((bl b).getD 0 0):=by rw [show(0:Int)=((0:Nat):Int)from rfl,zl3,zul (by omega)]
 have e1:zbt N b 2 2=_:=zyd N hN b 2 2 (by omega) (by omega) (by omega)
 have e2:zbt N b 4 6=_:=zyd N hN b 4 6 (by omega) (by omega) (by omega)
 have e3:zbt N b 10 6=_:=zyd N hN b 10 6 (by omega) (by omega) (by omega)
 unfold zkv
 rw [show((b.size:Int) !=16)=false by rw [hb];rfl]
 simp only [cfa,i1,i0,obs]
 by_cases h:((bl b).getD 1 0).toNat=0
 · rw [h,show((((0:Nat):Int)) !=0)=false from rfl,cfa];rw [e1,e2,e3];simp only [obs];have hx:=((bl b).getD 0 0).toNat_lt;rw [w6e];rw [show(⟨(((bl b).getD 0 0).toNat:Int),⟨(beV (((bl b).drop 4).take 6):Int),(beV (((bl b).drop 10).take 6):Int)⟩,(beV (((bl b).drop 2).take 2):Int)⟩:Pointer)=zvp (bl b)from rfl,zaas];simp only [obs];unfold zp1;rw [ifn]
   by_cases h2:zt3 (zvp (bl b))=0
   · rw [h2];rfl
   · rw [ifp h2,zdq,dct h2];rfl
 · unfold zp1;rw [ifp h,zdq,dct (by omega)];rfl
def zo8 (s:Storage) (i:Nat):List UInt8:=((bl s.Bytes).drop (16*i)).take 16
def gS (s:Storage) (i:Nat):Option (Int × Int):=(s.Tags[i]?).bind fun t=>if t=true∧(zp1 (zo8 s i)).2≠0 then some ((i:Int),22)else none
def zu7 (s:Storage):Int × Int:=
 if s.Bytes.size>1024 then(0,2)else if s.Bytes.size%16≠0 then(0,18)else if s.Tags.length≠s.Bytes.size/16 then(0,6)
 else match(List.range s.Tags.length).findSome? (gS s)with|some r=>r|none=>((s.Tags.length:Int),0)
theorem zsc (s:Storage) (i:Nat):bl (s.Bytes.extract (16*i) (16*i+16))=zo8 s i:=by
 rw [ze6,List.drop_take,zo8,show 16*i+16-16*i=16 by omega]
theorem z4b (N:Nat) (hN:2000<N) (s:Storage):zt N s=some (zu7 s)∧zb0 N s=some (zu7 s):=by
 unfold zt zb0 zu7
 by_cases h1:(s.Bytes.size:Int)>1024
 · rw [dct h1,ifp];exact⟨rfl,rfl⟩
 · rw [dcf h1,ifn];have hm:(s.Bytes.size:Int).tmod 16=(s.Bytes.size:Int)%16:=tme;have hd:(s.Bytes.size:Int).tdiv 16=(s.Bytes.size:Int)/16:=tde
   by_cases h2:(s.Bytes.size:Int)%16=0
   · rw [hm,hd,w6e,ifn]
     by_cases h3:(s.Tags.length:Int)=(s.Bytes.size:Int)/16
     · rw [show(((s.Bytes.size:Int)%16) !=0)=false by rw [h2];rfl,show((s.Tags.length:Int) !=(s.Bytes.size:Int)/16)=false by rw [←h3];exact bsf _,ifn];simp only [cfa];have hw:∀i:Nat,i<s.Tags.length→w6 ((i:Int)*16)=(i:Int)*16∧w6 ((i:Int)*16+16)=(i:Int)*16+16:=fun i hi=>⟨w6e,w6e⟩;have hx:∀i:Nat,i<s.Tags.length→s.Bytes.extract ((i:Int)*16).toNat ((i:Int)*16+16).toNat=s.Bytes.extract (16*i) (16*i+16):=fun i hi=>by
        rw [show((i:Int)*16).toNat=16*i by omega,show((i:Int)*16+16).toNat=16*i+16 by omega]
       have hz:∀i:Nat,i<s.Tags.length→(s.Bytes.extract (16*i) (16*i+16)).size=16:=fun i hi=>by
        rw [zdf _ _ _ (by omega) (by omega)];omega
       constructor
       · have l1:=zd5 (f:=zt.r1 N) (fun i=>(s.Tags,(s.Tags.length:Int),(i:Int),s)) (gS s) s.Tags.length
          (fun i hi=>by
           obtain⟨w1,w2⟩:=hw i hi;have hx1:=lge hi;simp only [zt.r1,zt.b1,zau,hx1,obs,dct (show(i:Int)<(s.Tags.length:Int)by omega),ctr,gS];rw [w6e (n:=(i:Int)+1)];cases hb:s.Tags[i]with
           | false=>simp
           | true=>
            simp only [bnt,cfa,w1,w2];rw [ifp,ifp,hx i hi,zagc N (by omega) _ (hz i hi),zsc];simp only [obs]
            by_cases hq:(zp1 (zo8 s i)).2=0
            · rw [hq];simp
            · rw [zdq,dct hq,ifp ⟨trivial,hq⟩];rfl)
          (by simp only [zt.r1,zt.b1,dcf (show ¬(s.Tags.length:Int)<(s.Tags.length:Int)by omega),cfa]) (N:=N) (by omega)
         simp only [nc0]at l1;rw [l1];simp only [obs];cases(List.range s.Tags.length).findSome? (gS s)<;>rfl
       · have l1:=zd5 (f:=zb0.r0 N) (fun i=>((s.Bytes.size:Int)/16,(i:Int),s)) (gS s) s.Tags.length
          (fun i hi=>by
           obtain⟨w1,w2⟩:=hw i hi;have hx1:=lge hi;simp only [zb0.r0,zb0.b0,zau,hx1,obs,dct (show(i:Int)<(s.Bytes.size:Int)/16 by omega),ctr,gS];rw [w6e (n:=(i:Int)+1)];cases hb:s.Tags[i]with
           | false=>simp
           | true=>
            simp only [ctr,zi5,w1,w2];rw [ifp,ifp];simp only [obs];rw [hx i hi,zaap N (by omega) _ (hz i hi),zsc];simp only [obs]
            by_cases hq:(zp1 (zo8 s i)).2=0
            · rw [hq];simp
            · rw [zdq,dct hq,ifp ⟨trivial,hq⟩];rfl)
          (by simp only [zb0.r0,zb0.b0,dcf (show ¬(s.Tags.length:Int)<(s.Bytes.size:Int)/16 by omega),cfa]) (N:=N) (by omega)
         simp only [nc0]at l1;rw [l1];simp only [obs];cases(List.range s.Tags.length).findSome? (gS s)with
         | some r=>rfl
         | none=>simp only [zbu,←h3]
     · rw [show(((s.Bytes.size:Int)%16) !=0)=false by rw [h2];rfl,show((s.Tags.length:Int) !=(s.Bytes.size:Int)/16)=true by rw [zdq];exact dct h3,ifp];exact⟨rfl,rfl⟩
   · rw [hm,show(((s.Bytes.size:Int)%16) !=0)=true by rw [zdq];exact dct h2,ifp];exact⟨rfl,rfl⟩
structure zi1 (s:Storage):Prop where
 le:s.Bytes.size≤1024
 quad:s.Bytes.size%16=0
 tags:s.Tags.length=s.Bytes.size/16
 ptr:∀i,s.Tags[i]?=some true→∃off:Int,(0≤off∧off≤16777215)∧zp1 (zo8 s i)=(zky off,0)
theorem zi1.err {s:Storage} (h:zi1 s):zu7 s=((s.Tags.length:Int),0):=by
 obtain⟨h1,h2,h3,h4⟩:=h
 unfold zu7
 rw [ifn,ifn,ifn]
 have:(List.range s.Tags.length).findSome? (gS s)=none:=by
  rw [List.findSome?_eq_none_iff];intro i _;unfold gS;cases ht:s.Tags[i]? with
  | none=>rfl
  | some t=>
   rw [obs];split
   · rename_i h5;rw [h5.1]at ht;obtain⟨off,_,h6⟩:=h4 i ht;rw [h6]at h5;exact absurd rfl h5.2
   · rfl
 rw [this]
theorem zi1.ok {s:Storage} (h:zi1 s):StoOk s:=⟨h.le,h.quad⟩
def ldV (s:Storage) (at_:Int):Option Int:=if s.Tags[(at_/16).toNat]?=some true then some (zp1 (zo8 s (at_/16).toNat)).1.Address.Offset else none
theorem zs6 {s:Storage} (h:zi1 s) {at_ o:Int} (hl:ldV s at_=some o):0≤o∧o≤16777215:=by
 unfold ldV at hl
 split at hl
 · rename_i ht;obtain⟨off,h1,h2⟩:=h.ptr _ ht;rw [h2]at hl;cases hl;exact h1
 · cases hl
theorem zmh {s:Storage} {a:Int} (h:zev s a=true):0≤a∧a%16=0∧a<(s.Bytes.size:Int):=by
 unfold zev at h
 simpa using h
theorem zbe {n:Nat} (h:n≤1000000):Nat.ble n zr=true:=by
 rw [Nat.ble_eq];unfold zr;omega
def spl (l:List UInt8) (a:Nat) (d:List UInt8):List UInt8:=l.take a++d++l.drop (a+d.length)
theorem zaee {l:List UInt8} {a:Nat} {d:List UInt8} (h:a+d.length≤l.length):(spl l a d).length=l.length:=by
 unfold spl
 simp only [lna,lnt,List.length_drop]
 omega
def clr (t:List Bool) (a n:Nat):List Bool:=(List.range t.length).map fun k=>if 16*k<a+n∧a<16*k+16 then false else t.getD k false
theorem z2o (t:List Bool) (a n:Nat):(clr t a n).length=t.length:=by simp [clr]
theorem zyl (t:List Bool) (a n k:Nat):(clr t a n)[k]?=if 16*k<a+n∧a<16*k+16 then(if k<t.length then some false else none)else t[k]?:=by
 unfold clr
 rw [List.getElem?_map]
 by_cases h:k<t.length
 · rw [lge (by simpa using h)];simp only [List.getElem_range,Option.map_some];split
   · simp [h]
   · rw [lge h,gdd,lge h];rfl
 · rw [List.getElem?_eq_none (by simpa using h),List.getElem?_eq_none (by simpa using h)];simp [h]
def wrV (s:Storage) (a:Nat) (d:ByteArray):Storage:=⟨⟨(spl (bl s.Bytes) a (bl d)).toArray⟩,clr s.Tags a d.size⟩
theorem zu4 {s:Storage} {a:Nat} {d:ByteArray} (h:a+d.size≤s.Bytes.size):(wrV s a d).Bytes.size=s.Bytes.size:=zaee (l:=bl s.Bytes) (d:=bl d) h
theorem z6a {l:List UInt8} {a:Nat} {d:List UInt8} (h:a+d.length≤l.length) (i n:Nat) (hi:i+n≤a∨a+d.length≤i):((spl l a d).drop i).take n=(l.drop i).take n:=by
 refine List.ext_getElem? fun k=> ?_
 rw [List.getElem?_take,List.getElem?_take]
 by_cases hk:k<n
 · rw [ifp hk,ifp hk,List.getElem?_drop,List.getElem?_drop];unfold spl;rcases hi with hi|hi
   · rw [List.append_assoc,List.getElem?_append_left (by rw [lnt];omega),List.getElem?_take,ifp]
   · rw [List.getElem?_append_right (by rw [lna,lnt];omega),lna,lnt,List.getElem?_drop]
     congr 1
     omega
 · rw [ifn hk,ifn hk]
theorem zaaa {l:List UInt8} {a:Nat} {d:List UInt8} (h:a+d.length≤l.length):((spl l a d).drop a).take d.length=d:=by
 unfold spl
 rw [List.append_assoc,List.drop_append_of_le_length (by rw [lnt];omega),List.drop_of_length_le (by rw [lnt];omega),List.nil_append,List.take_append_of_le_length (Nat.le_refl _),List.take_length]
theorem z32 {s:Storage} (h:zi1 s) {a:Nat} {d:ByteArray} (hd:a+d.size≤s.Bytes.size) (hd0:0<d.size):zi1 (wrV s a d):=by
 have hs:=zu4 hd
 refine⟨by rw [hs];exact h.le,by rw [hs];exact h.quad,by rw [hs];exact(z2o _ _ _).trans h.tags,fun i hi=> ?_⟩
 have hi':(clr s.Tags a d.size)[i]?=some true:=hi
 rw [zyl]at hi'
 split at hi'
 · split at hi'<;>cases hi'
 · rename_i hn;obtain⟨off,h1,h2⟩:=h.ptr i hi';refine⟨off,h1,?_⟩;have:zo8 (wrV s a d) i=zo8 s i:=z6a (l:=bl s.Bytes) (d:=bl d) hd _ _ (by rw [zc5];omega);rw [this];exact h2
theorem zss (b:ByteArray):b.toList=bl b:=ByteArray.toList_eq b
theorem zagb {s:Storage} (h:zi1 s) {a:Nat} {d:ByteArray} (hd:a+d.size≤s.Bytes.size) (hd0:0<d.size):zni s (a:Int) d=some (wrV s a d):=by
 have hl:=h.le
 have hq:=h.quad
 have ht:=h.tags
 have hmax:IntKind.i64.max=9223372036854775807:=by decide
 unfold zni
 rw [hmax]
 have z1:(s.Bytes.extract (0:Int).toNat (a:Int).toNat).size=a:=by rw [zdf _ _ _ (by omega) (by omega)];omega
 rw [ifp,ifp,ifn (by rw [z1];omega),w6e (n:=(a:Int)+(d.size:Int)),ifp]
 have z2:(s.Bytes.extract ((a:Int)+(d.size:Int)).toNat s.Bytes.size).size=s.Bytes.size-(a+d.size):=by rw [zdf _ _ _ (by omega) (by omega)];omega
 rw [ifn (by rw [z2,bsa,z1];omega)]
 have hc:zdk 1 s.Tags=some s.Tags:=by unfold zdk;rw [zbe (by omega)];rfl
 rw [hc]
 simp only [obs]
 have hne:(d.toList==(⟨#[]⟩:ByteArray).toList)=false:=by
  rw [zss,zss];refine beq_eq_false_iff_ne.2 fun h=> ?_;have:=congrArg List.length h;rw [zc5,zc5]at this;have:d.size=0:=this;omega
 rw [hne]
 simp only [Bool.not_false,ctr]
 have e1:w6 ((w6 ((w6 ((a:Int)+(d.size:Int)-1)).tdiv 16))+1)=(((a+d.size-1)/16+1:Nat):Int):=by
  rw [w6e (n:=(a:Int)+(d.size:Int)-1),tde,w6e (n:=((a:Int)+(d.size:Int)-1)/16),w6e];omega
 have e2:w6 ((a:Int).tdiv 16)=((a/16:Nat):Int):=by
  rw [tde,w6e];omega
 rw [e1,e2,ifp,ifp]
 simp only [itn]
 have f1:((s.Bytes.extract (0:Int).toNat a)++d)++(s.Bytes.extract ((a:Int)+(d.size:Int)).toNat s.Bytes.size)=(wrV s a d).Bytes:=by
  refine zi2 ?_;rw [zfe,zfe,ze6,ze6,show(0:Int).toNat=0 from rfl,dr0,show((a:Int)+(d.size:Int)).toNat=a+d.size by omega,←zc5 s.Bytes,List.take_length];rfl
 have f2:s.Tags.take (a/16)++List.replicate ((a+d.size-1)/16+1-a/16) false++s.Tags.drop (a/16+((a+d.size-1)/16+1-a/16))=(wrV s a d).Tags:=by
  refine List.ext_getElem? fun k=> ?_;show _=(clr s.Tags a d.size)[k]?;rw [zyl]
  by_cases h1:k<a/16
  · rw [List.append_assoc,List.getElem?_append_left (by rw [lnt];omega),List.getElem?_take,ifp h1,ifn]
  · by_cases h2:k<(a+d.size-1)/16+1
    · rw [List.append_assoc,List.getElem?_append_right (by rw [lnt];omega),List.getElem?_append_left (by rw [lnt,lnr];omega),List.getElem?_replicate,ifp (by rw [lnt];omega),ifp,ifp]
    · rw [List.getElem?_append_right (by rw [lna,lnt,lnr];omega),lna,lnt,lnr,List.getElem?_drop,ifn]
      congr 1
      omega
 rw [f1,f2]
theorem z37 (N:Nat) (hN:2000<N) {s:Storage} (h:zi1 s) {a:Nat} {d:ByteArray} (hd:a+d.size≤s.Bytes.size) (hd0:0<d.size):zgl N s (a:Int) d=some (wrV s a d,0):=by
 have hl:=h.le
 unfold zgl zl6
 rw [(z4b N hN s).1,h.err]
 simp only [obs,bsf,cfa]
 rw [dcf (show ¬(a:Int)<0 by omega),dcf (show ¬(d.size:Int)<0 by omega),dcf (show ¬(a:Int)>(s.Bytes.size:Int)by omega),w6e,dcf (show ¬(d.size:Int)>(s.Bytes.size:Int)-(a:Int)by omega)]
 simp only [cfa,obs,bsf]
 rw [zagb h hd hd0]
 rfl
def pbV (off:Nat):ByteArray:=zdg (zir 0 1++zir 0 1++zir 0 2++zir 1 6++zir off 6)
theorem zg6 (l:List Int):bl (zdg l)=l.map fun n=>UInt8.ofNat n.toNat:=rfl
theorem zm7 (off:Nat):(pbV off).size=16:=by
 show(bl (pbV off)).length=16
 unfold pbV
 rw [zg6]
 simp only [lnm,lna,zwc]
theorem z0o (v k:Nat):beV ((zir v k).map fun n=>UInt8.ofNat n.toNat)=v%256^k:=by
 induction k generalizing v with
 | zero=>rw [Nat.pow_zero,Nat.mod_one];rfl
 | succ k ih=>
  have e:zir v (k+1)=zir (v/256) k++[((v%256:Nat):Int)]:=by
   unfold zir;rw [List.range_succ,List.map_append]
   congr 1
   · refine List.map_congr_left fun j hj=> ?_;have:=List.mem_range.1 hj;rw [Nat.div_div_eq_div_mul,←Nat.pow_succ',show k+1-1-j=k-1-j+1 by omega]
   · simp
  rw [e,List.map_append,List.map_singleton,zwd,ih,itn,UInt8.toNat_ofNat',show 256^(k+1)=256*256^k from Nat.pow_succ',Nat.mod_mul];omega
theorem zaeu (off:Nat) (h:off≤16777215):zp1 (bl (pbV off))=(zky off,0):=by
 have e:bl (pbV off)=(zir 0 1).map (fun n=>UInt8.ofNat n.toNat)++((zir 0 1).map (fun n=>UInt8.ofNat n.toNat)++((zir 0 2).map (fun n=>UInt8.ofNat n.toNat)++((zir 1 6).map (fun n=>UInt8.ofNat n.toNat)++(zir off 6).map (fun n=>UInt8.ofNat n.toNat)))):=by
  unfold pbV;rw [zg6];simp only [List.map_append,List.append_assoc]
 have l6:∀v,((zir v 6).map (fun n=>UInt8.ofNat n.toNat)).length=6:=fun v=>by simp [zwc]
 have e2:bl (pbV off)=0::0::0::0::((zir 1 6).map (fun n=>UInt8.ofNat n.toNat)++(zir off 6).map (fun n=>UInt8.ofNat n.toNat)):=e
 have hp:zvp (bl (pbV off))=zky off:=by
  unfold zvp zky;rw [e2];simp only [List.drop_succ_cons,dr0,List.take_succ_cons,List.take_zero,List.getD_cons_zero];rw [List.take_append_of_le_length (by rw [l6];omega),List.take_of_length_le (by rw [l6];omega),z0o,List.drop_append_of_le_length (by rw [l6];omega),List.drop_of_length_le (by rw [l6];omega),List.nil_append,List.take_of_length_le (by rw [l6];omega),z0o,mel (show off<256^6 by omega)];rfl
 have h1:((bl (pbV off)).getD 1 0).toNat=0:=by rw [e2];rfl
 have hc:zt3 (zky off)=0:=by
  unfold zt3 zky;rw [show inB (off:Int) 0 16777215=true from zaq.2 ⟨by omega,by omega⟩];rfl
 unfold zp1
 rw [ifn (by rw [h1];exact fun h=>h rfl),hp,hc]
 rfl
def stV (s:Storage) (a:Nat) (off:Nat):Storage:=⟨(wrV s a (pbV off)).Bytes,(wrV s a (pbV off)).Tags.set (a/16) true⟩
theorem zzj {s:Storage} {a off:Nat} (h:a+16≤s.Bytes.size):(stV s a off).Bytes.size=s.Bytes.size:=zu4 (d:=pbV off) (by rw [zm7];exact h)
theorem z4d {s:Storage} (h:zi1 s) {a off:Nat} (ha:a+16≤s.Bytes.size) (hq:a%16=0) (ho:off≤16777215):zi1 (stV s a off):=by
 have hw:=z32 h (a:=a) (d:=pbV off) (by rw [zm7];exact ha) (by rw [zm7];omega)
 refine⟨hw.le,hw.quad,?_,fun i hi=> ?_⟩
 · show((wrV s a (pbV off)).Tags.set (a/16) true).length=_;rw [List.length_set];exact hw.tags
 · have hi':((wrV s a (pbV off)).Tags.set (a/16) true)[i]?=some true:=hi;rw [List.getElem?_set]at hi';split at hi'
   · rename_i he;refine⟨off,⟨by omega,by omega⟩,?_⟩;have:zo8 (stV s a off) i=bl (pbV off):=by
      have:=zaaa (l:=bl s.Bytes) (a:=a) (d:=bl (pbV off)) (by rw [zc5,zc5,zm7];exact ha);rw [zc5,zm7]at this;unfold zo8;rw [←he,show 16*(a/16)=a by omega];exact this
     rw [this];exact zaeu off ho
   · obtain⟨o,h1,h2⟩:=hw.ptr i hi';exact⟨o,h1,h2⟩
def zcy (l:List Int):Int:=l.foldl (fun n d=>n*10+d) 0
theorem zpi (l:List Int) (x:Int):zcy (l++[x])=zcy l*10+x:=by
 unfold zcy;rw [List.foldl_append];rfl
theorem zt0:∀(l r:List Int),l=r.reverse→(∀d∈l,0≤d∧d≤15)→0≤zcy l∧zcy l≤2*(10^l.length:Nat)-2:=by
 intro l r
 induction r generalizing l with
 | nil=>intro h _;subst h;decide
 | cons x r ih=>
  intro h hd;rw [List.reverse_cons]at h;subst h;have h1:=ih _ rfl fun d hd'=>hd d (List.mem_append_left _ hd');have h2:=hd x (List.mem_append_right _ List.mem_cons_self);rw [zpi,lna,lns,Nat.pow_succ];omega
def zol (l:List UInt8):List Int:=l.flatMap fun b=>[((b.toNat/16:Nat):Int),((b.toNat%16:Nat):Int)]
def zix (l:List UInt8):List Int:=l.map fun b=>((b.toNat%16:Nat):Int)
def zg7 (l:List UInt8):List Int:=zix l++[(((l.getD (l.length-1) 0).toNat/16:Nat):Int)]
def znd (l:List Int) (len:Int) (i:Nat):Bool:=decide (l.getD i 0>9)||(decide (l.getD i 0>0)&&decide ((i:Int)<(l.length:Int)-1-len))
def znw (l:List Int):Int:=l.getD (l.length-1) 0
def zxz (l:List Int) (len:Int):Option Int:=
 if(List.range (l.length-1)).any (znd l len)=true∨znw l<10 then none
 else some (if znw l=11∨znw l=13 then-zcy (l.take (l.length-1))else zcy (l.take (l.length-1)))
def z0n (l:List UInt8):Int:=if 128≤(l.getD 0 0).toNat then(beV l:Int)-(256^l.length:Nat)else(beV l:Int)
def zj4 (t:DataType) (b:ByteArray):Option Int:=
 if t.Kind=3 then(if-((10^t.Length.toNat:Nat):Int)<z0n (bl b)∧z0n (bl b)<((10^t.Length.toNat:Nat):Int)then some (z0n (bl b))else none)
 else zxz (if t.Kind=1 then zol (bl b)else zg7 (bl b)) t.Length
theorem zac5 (l:List UInt8):(zol l).length=2*l.length:=by
 unfold zol
 induction l with
 | nil=>rfl
 | cons x l ih=>simp only [List.flatMap_cons,lna,lnc,ln0,ih];omega
theorem zxl {l:List UInt8}:(∀d∈zol l,0≤d∧d≤15)∧(∀d∈zg7 l,0≤d∧d≤15):=by
 constructor
 · intro d hd;obtain⟨b,_,hb⟩:=List.mem_flatMap.1 hd;have:=b.toNat_lt;rcases List.mem_cons.1 hb with rfl|hb
   · omega
   · rcases List.mem_cons.1 hb with rfl|hb
     · omega
     · cases hb
 · intro d hd;rcases List.mem_append.1 hd with hd|hd
   · obtain⟨b,_,rfl⟩:=List.mem_map.1 hd;omega
   · rcases List.mem_cons.1 hd with rfl|hd
     · have:=(l.getD (l.length-1) 0).toNat_lt;omega
     · cases hd
theorem zac3 (N:Nat) (hN:100<N) (k:Nat) (hk:k≤18):zct N (k:Int)=some ((10^k:Nat):Int):=by
 unfold zct
 have:=zco (f:=zct.r0 N) (fun i=>(((10^i:Nat):Int),(k:Int),(i:Int))) k
  (fun i hi=>by
   have:10^(i+1)≤10^18:=zdj (by omega);rw [Nat.pow_succ]at this;simp only [zct.r0,zct.b0,dct (show(i:Int)<(k:Int)by omega),ctr];rw [w6e (n:=((10^i:Nat):Int)*10),w6e,Nat.pow_succ];simp only [Int.natCast_add,Int.natCast_mul,Int.natCast_one];rfl)
  (by simp only [zct.r0,zct.b0,dcf (show ¬(k:Int)<(k:Int)by omega),cfa]) (N:=N) (by omega)
 simp only [Nat.pow_zero,nc0]at this
 rw [ifn,show(1:Int)=((1:Nat):Int)from rfl,this]
 rfl
theorem z3r (N:Nat) (hN:100<N) {t:DataType} (ht:zij t) (n:Int):zef N t ⟨n,⟨#[]⟩⟩=some (if-((10^t.Length.toNat:Nat):Int)<n∧n<((10^t.Length.toNat:Nat):Int)then 0 else 19):=by
 have f2:∀a b:Int,za5 N [a,b]=some (zhh [a,b]):=fun a b=>z48 N _ (by simp;omega) (by simp)
 obtain⟨⟨l1,l2⟩,l3,l4⟩:=zgb ht
 have hp:=zac3 N hN t.Length.toNat (by omega)
 rw [Int.toNat_of_nonneg (by omega)]at hp
 have hp2:10^t.Length.toNat≤10^15:=zdj (by omega)
 have hp3:=zee t.Length.toNat
 obtain⟨h0,h1,h2⟩:=ht
 unfold zef
 rw [zyi N (by omega),h0,zbc,zbc,dcf (show ¬t.Kind=4 by omega),dcf (show ¬t.Kind=0 by omega)]
 simp only [zyj,cfa,obs,f2,show zhh [0,0]=0 from rfl,bsf]
 rw [hp]
 simp only [obs,bst,bnt,cfa,z84,zyj]
 generalize 10^t.Length.toNat=P at*
 rw [w6e (n:=(P:Int)-1),w6e]
 by_cases h: -(P:Int)<n∧n<(P:Int)
 · rw [ifp h,show inB n (0-((P:Int)-1)) ((P:Int)-1)=true from zaq.2 ⟨by omega,by omega⟩];rfl
 · rw [ifn h,show inB n (0-((P:Int)-1)) ((P:Int)-1)=false by
    cases hb:inB n (0-((P:Int)-1)) ((P:Int)-1)with
    | false=>rfl
    | true=>have:=zaq.1 hb;omega]
   rfl
theorem zua {t:DataType} (ht:zij t):szE t=(if t.Kind=1 then t.Length/2+1 else if t.Kind=3 then(if t.Length=9 then 4 else 2)else t.Length):=by
 obtain⟨_,h1,h2⟩:=ht
 unfold szE
 split
 · rfl
 · split
   · rfl
   · rw [ifn]
def zlj (n len:Nat):List Int:=(List.range len).map fun j=>((n/10^(len-1-j)%10:Nat):Int)
theorem zsm (n len:Nat):(zlj n len).length=len:=by simp [zlj]
theorem zrt {n len:Nat}:∀d∈zlj n len,0≤d∧d≤9:=by
 intro d hd
 obtain⟨j,_,rfl⟩:=List.mem_map.1 hd
 omega
def zze (l:List Int) (neg:Bool):List Int:=(l.take (l.length-1)).map (· +240)++[l.getD (l.length-1) 0+cond neg 208 240]
def zi7:List Int→List Int
 | a::b::l=>(16*a+b)::zi7 l
 | _=>[]
def z5w (n:Int) (k:Nat):List Int:=(List.range k).map fun j=>n/256^(k-1-j)%256
def zse (t:DataType) (n:Int):List Int:=(if t.Length%2=0 then [0]else [])++zlj n.natAbs t.Length.toNat++[if n<0 then 13 else 15]
def zn0 (t:DataType) (n:Int):ByteArray:=
 zdg (if t.Kind=3 then z5w n (szE t).toNat else if t.Kind=2 then zze (zlj n.natAbs t.Length.toNat) (decide (n<0))else zi7 (zse t n))
theorem zaa3 (N:Nat) (hN:100<N) (n len:Nat) (hn:n≤1000000000000000000) (hl:len≤20):zcj N (n:Int) (len:Int)=some (zlj n len):=by
 unfold zcj
 have:=zco (f:=zcj.r0 N) (fun i=>(((n/10^i:Nat):Int),zhg (fun e=>((n/10^e%10:Nat):Int)) len i,(len:Int)-1-(i:Int))) len
  (fun i hi=>by
   have hl2:n/10^i≤n:=Nat.div_le_self _ _;have hl:(zhg (fun e=>((n/10^e%10:Nat):Int)) len i).length=len:=zvo _ _ _;have e1:n/10^(i+1)=n/10^i/10:=by rw [Nat.pow_succ,←Nat.div_div_eq_div_mul]
   have e2:(zhg (fun e=>((n/10^e%10:Nat):Int)) len i).set (len-1-i) ((n/10^i%10:Nat):Int)=zhg (fun e=>((n/10^e%10:Nat):Int)) len (i+1):=zs0 _ len i hi;rw [e1,←e2];generalize (zhg (fun e=>((n/10^e%10:Nat):Int)) len i)=P at*;generalize n/10^i=q at*;simp only [zcj.r0,zcj.b0,dct (show(len:Int)-1-(i:Int)≥0 by omega),ctr,hl];rw [ifp,ifp];obtain⟨x,hx⟩:∃x,P[((len:Int)-1-(i:Int)).toNat]?=some x:=zge (by omega);rw [hx];simp only [obs]
   rw [tde,tme,w6e (n:=(q:Int)/10),w6e (n:=(len:Int)-1-(i:Int)-1),zmw (by omega) (by omega),show((len:Int)-1-(i:Int)).toNat=len-1-i by omega,show(q:Int)%10=((q%10:Nat):Int)by omega,show(q:Int)/10=((q/10:Nat):Int)by omega,show(len:Int)-1-(i:Int)-1=(len:Int)-1-((i+1:Nat):Int)by omega])
  (by simp only [zcj.r0,zcj.b0,dcf (show ¬(len:Int)-1-(len:Int)≥0 by omega),cfa]) (N:=N) (by omega)
 rw [ifp,ifp,zbe (by omega),ctr,itn,w6e]
 simp only [Nat.pow_zero,Nat.div_one,zsz,nc0,Int.sub_zero,zs1]at this
 rw [this]
 rfl
theorem or4 (x y:Nat) (hx:x<16) (hy:y<16):orI .u8 (IntKind.wrap .u8 ((x:Int)*2^(min (4:Int).toNat 8))) (y:Int)=((16*x+y:Nat):Int):=by
 rw [show(2:Int)^(min (4:Int).toNat 8)=16 from rfl,zmw (by omega) (by omega)]
 unfold orI
 have e:(BitVec.ofInt IntKind.u8.bits ((x:Int)*16)|||BitVec.ofInt IntKind.u8.bits (y:Int)).toNat=16*x+y:=by
  show(BitVec.ofInt 8 ((x:Int)*16)|||BitVec.ofInt 8 (y:Int)).toNat=_;rw [show(x:Int)*16=((16*x:Nat):Int)by omega,BitVec.toNat_or,BitVec.ofInt_natCast,BitVec.ofInt_natCast,BitVec.toNat_ofNat,BitVec.toNat_ofNat,mel (by omega),mel (by omega)];exact(Nat.two_pow_add_eq_or_of_lt (i:=4) (b:=y) hy x).symm
 rw [e]
 exact zmw (by omega) (by omega)
theorem zvq:∀(n:Nat) (l:List Int) (x y:Int),l.length=2*n→zi7 (l++[x,y])=zi7 l++[16*x+y]
 | 0,l,x,y,h=>by
  obtain rfl:=List.length_eq_zero_iff.1 (by omega:l.length=0);rfl
 | n+1,[],x,y,h=>by simp at h
 | n+1,[a],x,y,h=>by simp at h;omega
 | n+1,a::b::l,x,y,h=>by
  simp only [List.cons_append,zi7];rw [zvq n l x y (by simp only [lnc]at h;omega)]
theorem zqy:∀(n:Nat) (l:List Int),l.length=2*n→(zi7 l).length=n
 | 0,l,h=>by
  obtain rfl:=List.length_eq_zero_iff.1 (by omega:l.length=0);rfl
 | n+1,[],h=>by simp at h
 | n+1,[a],h=>by simp at h;omega
 | n+1,a::b::l,h=>by
  simp only [zi7,lnc];rw [zqy n l (by simp only [lnc]at h;omega)]
theorem zaaz (N:Nat) (hN:100<N) (l:List Int) (n:Nat) (hl:l.length=2*n) (hn:n≤20) (hd:∀d∈l,0≤d∧d<16):zbs N l=some (zdg (zi7 l)):=by
 unfold zbs
 have:=zco (f:=zbs.r0 N) (fun i=>(l,zi7 (l.take (2*i)),2*(i:Int))) n
  (fun i hi=>by
   obtain⟨x,hx⟩:∃x,l[2*i]?=some x:=zge (by omega);obtain⟨y,hy⟩:∃y,l[2*i+1]?=some y:=zge (by omega);obtain⟨x1,x2⟩:=hd x (lmg hx);obtain⟨y1,y2⟩:=hd y (lmg hy);have hlt:(l.take (2*i)).length=2*i:=by rw [lnt];omega
   simp only [zbs.r0,zbs.b0,dct (show 2*(i:Int)<(l.length:Int)by omega),ctr];rw [w6e (n:=2*(i:Int)+1),w6e (n:=2*(i:Int)+2),show 2*(i:Int)=((2*i:Nat):Int)by omega,show((2*i:Nat):Int)+1=((2*i+1:Nat):Int)by omega,zau,zau,hx,hy];simp only [obs];obtain⟨u,rfl⟩:∃u:Nat,x=(u:Int):=⟨x.toNat,by omega⟩;obtain⟨v,rfl⟩:∃v:Nat,y=(v:Int):=⟨y.toNat,by omega⟩;rw [or4 u v (by omega) (by omega),zbe (by rw [zqy i _ hlt];simp only [lnc,ln0];omega),ctr];rw [show 2*(i+1)=2*i+1+1 by omega,zhp _ _ hy,zhp _ _ hx,List.append_assoc,show([(u:Int)]++[(v:Int)]:List Int)=[(u:Int),(v:Int)]from rfl,zvq i _ _ _ hlt]
   congr 4)
  (by simp only [zbs.r0,zbs.b0,dcf (show ¬2*(n:Int)<(l.length:Int)by omega),cfa]) (N:=N) (by omega)
 simp only [Nat.mul_zero,List.take_zero,nc0,Int.mul_zero]at this
 rw [show zi7 []=[]from rfl]at this
 rw [this,obs,←hl,List.take_length]
theorem zaef (f:Int→Int) (l:List Int) (i:Nat) {x:Int} (hx:l[i]?=some x):((l.take i).map f++l.drop i)[i]?=some x∧((l.take i).map f++l.drop i).set i (f x)=(l.take (i+1)).map f++l.drop (i+1):=by
 obtain⟨h1,h2⟩:=gei hx
 have hl:((l.take i).map f).length=i:=by rw [lnm,lnt];omega
 have hd:l.drop i=x::l.drop (i+1):=by rw [List.drop_eq_getElem_cons h1,h2]
 constructor
 · rw [List.getElem?_append_right (by omega),hl,Nat.sub_self,hd];rfl
 · rw [List.set_append_right _ _ (by omega),hl,Nat.sub_self,hd,zhp l i hx,List.map_append,List.append_assoc];rfl
theorem z1h {l:List Int} (h:0<l.length):l=l.take (l.length-1)++[l.getD (l.length-1) 0]:=by
 have hx:l[l.length-1]?=some (l.getD (l.length-1) 0):=by rw [gdd,lge (by omega)];rfl
 have:=zhp l (l.length-1) hx
 rw [show l.length-1+1=l.length by omega,List.take_length]at this
 exact this
theorem zaea (z:Int):IntKind.wrap .u8 z=z%256:=by
 have e:(2:Int)^(IntKind.u8.bits)=256:=by decide
 unfold IntKind.wrap
 simp only [e,show IntKind.u8.signed=false from rfl,Bool.false_and]
 simp only [Bool.false_eq_true,if_false]
theorem zrg {l:List Int} (h:0<l.length):l.map (· +240)=zze l false:=by
 conv=>lhs;rw [z1h h]
 rw [List.map_append]
 rfl
theorem zrx {n:Int} (h1: -9223372036854775807≤n) (h2:n≤9223372036854775807):(if w6 (0-n)>n then w6 (0-n)else n)=((n.natAbs:Nat):Int):=by
 rw [w6e]
 split<;>omega
theorem zro {t:DataType} (h1:1≤t.Length) (n:Int):(zse t n).length=2*(t.Length.toNat/2+1)∧∀d∈zse t n,0≤d∧d<16:=by
 unfold zse
 constructor
 · rw [lna,lna,zsm,lns];split
   · rw [lns];omega
   · rw [ln0];omega
 · intro d hd;rcases List.mem_append.1 hd with hd|hd
   · rcases List.mem_append.1 hd with hd|hd
     · split at hd
       · rcases List.mem_cons.1 hd with rfl|hd
         · omega
         · cases hd
       · cases hd
     · have:=zrt d hd;omega
   · rcases List.mem_cons.1 hd with rfl|hd
     · split<;>omega
     · cases hd
theorem z85 (N:Nat) (hN:100<N) {t:DataType} (ht:zij t) (n:Int) (hn: -((10^t.Length.toNat:Nat):Int)<n∧n<((10^t.Length.toNat:Nat):Int)):zao N t ⟨n,⟨#[]⟩⟩=some (zn0 t n):=by
 obtain⟨⟨l1,l2⟩,l3,l4⟩:=zgb ht
 have hp2:10^t.Length.toNat≤10^15:=zdj (by omega)
 have hsz:=zua ht
 have ht':=ht
 obtain⟨h0,h1,h2⟩:=ht'
 have hd:=zaa3 N hN n.natAbs t.Length.toNat (by omega) (by omega)
 rw [Int.toNat_of_nonneg (by omega)]at hd
 unfold zao zn0
 try simp only [eD]
 rw [zrx (by omega) (by omega),hd]
 simp only [obs]
 have hlen:=zsm n.natAbs t.Length.toNat
 have hrange:=zrt (n:=n.natAbs) (len:=t.Length.toNat)
 have hpac:=zro (t:=t) l1 n
 have epac:zse t n=(if t.Length%2=0 then [0]else [])++zlj n.natAbs t.Length.toNat++[if n<0 then 13 else 15]:=rfl
 generalize zlj n.natAbs t.Length.toNat=d at*
 simp only [zbc]
 by_cases k2:t.Kind=2
 · rw [dct k2,ctr,ifn,ifp k2];have lp:=zco (f:=zao.r1 N) (fun i=>((d.take i).map (· +240)++d.drop i,(d.length:Int),(i:Int),(⟨n,⟨#[]⟩⟩:Value))) d.length
    (fun i hi=>by
     obtain⟨x,hx⟩:∃x,d[i]?=some x:=zge hi;obtain⟨e1,e2⟩:=zaef (· +240) d i hx;have hxr:=hrange x (lmg hx);have hl:((d.take i).map (· +240)++d.drop i).length=d.length:=by rw [lna,lnm,lnt,List.length_drop];omega
     simp only [zao.r1,zao.b1,dct (show(i:Int)<(d.length:Int)by omega),ctr,hl];rw [ifp,ifp,itn,e1];simp only [obs];rw [ifp,ifp,zmw (by omega) (by omega),w6e,e2];rfl)
    (by simp only [zao.r1,zao.b1,dcf (show ¬(d.length:Int)<(d.length:Int)by omega),cfa]) (N:=N) (by omega)
   simp only [List.take_zero,nc0,dr0,List.map_nil,List.nil_append,List.take_length,List.drop_length,List.append_nil]at lp;rw [lp];simp only [obs,lnm]
   by_cases hneg:n<0
   · rw [dct hneg,ctr,w6e,ifp,ifp];have hi:(d.length:Int)-1=((d.length-1:Nat):Int):=by omega
     have hx:d[d.length-1]?=some (d.getD (d.length-1) 0):=by rw [gdd,lge (by omega)];rfl
     have hxr:=hrange _ (lmg hx);rw [hi,itn,List.getElem?_map,hx];simp only [Option.map_some,obs];rw [ifp,ifp,zmw (by omega) (by omega)]
     congr 2
     conv=>lhs;rw [show d.map (· +240)=(d.take (d.length-1)).map (· +240)++[d.getD (d.length-1) 0+240]from zrg (by omega)]
     have hl:((d.take (d.length-1)).map (· +240)).length=d.length-1:=by rw [lnm,lnt];omega
     rw [List.set_append_right _ _ (by omega),hl,Nat.sub_self];unfold zze
     congr 1
     show [_]=[_]
     congr 1
     simp only [ctr];omega
   · rw [dcf hneg,cfa,zrg (by omega)]
 · rw [dcf k2,cfa,ifn (c:=t.Kind=2) k2]
   by_cases k1:t.Kind=1
   · rw [dct k1,ctr,ifn];have pk:=zaaz N hN (zse t n) _ hpac.1 (by omega) hpac.2;have ev:decide ((d.length:Int).tmod 2=0)=decide (t.Length%2=0):=by
      rw [tme];simp only [decide_eq_decide];omega
     rw [ev];rw [epac]at pk⊢
     by_cases hneg:n<0
     · rw [dct hneg,ctr];rw [ifp hneg]at pk⊢
       by_cases he:t.Length%2=0
       · rw [dct he,ctr];rw [ifp he]at pk⊢;rw [zbe (by simp only [lnc,ln0];omega),ctr,zbe (by simp only [lna,lnc,ln0];omega),ctr,pk];rfl
       · rw [dcf he,cfa];rw [ifn he,List.nil_append]at pk⊢;rw [zbe (by simp only [lnc,ln0];omega),ctr,pk];rfl
     · rw [dcf hneg,cfa];rw [ifn hneg]at pk⊢
       by_cases he:t.Length%2=0
       · rw [dct he,ctr];rw [ifp he]at pk⊢;rw [zbe (by simp only [lnc,ln0];omega),ctr,zbe (by simp only [lna,lnc,ln0];omega),ctr,pk];rfl
       · rw [dcf he,cfa];rw [ifn he,List.nil_append]at pk⊢;rw [zbe (by simp only [lnc,ln0];omega),ctr,pk];rfl
   · have k3:t.Kind=3:=by omega
     rw [dcf k1,cfa,dct k3,ctr,ifp k3,z2f h0];have hs:(szE t).toNat≤4∧0<(szE t).toNat∧szE t=((szE t).toNat:Int):=by
      rw [hsz,ifn k1,ifp k3];split<;>decide
     obtain⟨s1,s2,s3⟩:=hs;generalize (szE t).toNat=k at*;rw [s3];simp only [obs];rw [ifp,ifp,zbe (by omega),ctr,itn,lnr,w6e];have lp:=zco (f:=zao.r3 N) (fun i=>(zhg (fun e=>n/256^e%256) k i,(k:Int)-1-(i:Int),n/256^i)) k
      (fun i hi=>by
       have e2:(zhg (fun e=>n/256^e%256) k i).set (k-1-i) (n/256^i%256)=zhg (fun e=>n/256^e%256) k (i+1):=zs0 _ k i hi;have hl:(zhg (fun e=>n/256^e%256) k i).length=k:=zvo _ _ _;have e1:n/256^(i+1)=n/256^i/256:=by rw [Int.pow_succ,Int.ediv_ediv_of_nonneg (Int.le_of_lt (Int.pow_pos (by decide)))]
       rw [e1,←e2];generalize zhg (fun e=>n/256^e%256) k i=P at*;simp only [zao.r3,zao.b3,dct (show(k:Int)-1-(i:Int)≥0 by omega),ctr,hl];rw [ifp,ifp];obtain⟨x,hx⟩:∃x,P[((k:Int)-1-(i:Int)).toNat]?=some x:=zge (by omega);rw [hx];simp only [obs];rw [zaea,w6e,show(2:Int)^(min (8:Int).toNat 64)=256 from rfl,Int.fdiv_eq_ediv_of_nonneg _ (by decide),show((k:Int)-1-(i:Int)).toNat=k-1-i by omega,show(k:Int)-1-(i:Int)-1=(k:Int)-1-((i+1:Nat):Int)by omega])
      (by simp only [zao.r3,zao.b3,dcf (show ¬(k:Int)-1-(k:Int)≥0 by omega),cfa]) (N:=N) (by omega)
     simp only [Int.pow_zero,Int.ediv_one,zsz,nc0,Int.sub_zero,zs1]at lp;rw [lp];rfl
theorem zaa2 (N:Nat) (hN:100<N) {t:DataType} (ht:zij t) (n:Int) (hn: -((10^t.Length.toNat:Nat):Int)<n∧n<((10^t.Length.toNat:Nat):Int)):zh5 N t ⟨n,⟨#[]⟩⟩=some (zn0 t n,0):=by
 unfold zh5
 rw [z3r N hN ht,ifp hn]
 simp only [obs,bsf,cfa,eD]
 rw [z85 N hN ht n hn]
 rfl
theorem z3d {t:DataType} (ht:zij t) (n:Int):((zn0 t n).size:Int)=szE t:=by
 obtain⟨⟨l1,l2⟩,l3,l4⟩:=zgb ht
 have hsz:=zua ht
 obtain⟨h0,h1,h2⟩:=ht
 rw [←zc5]
 unfold zn0
 rw [zg6,lnm]
 by_cases k3:t.Kind=3
 · rw [ifp k3];unfold z5w;rw [lnm,List.length_range];rw [hsz,ifn,ifp k3];split<;>rfl
 · rw [ifn k3]
   by_cases k2:t.Kind=2
   · rw [ifp k2];unfold zze;rw [lna,lnm,lnt,zsm,lns,hsz,ifn,ifn k3];omega
   · rw [ifn k2,zqy _ _ (zro l1 n).1,hsz,ifp];omega
theorem zzt (N:Nat) (hN:100<N) (k:Nat) (hk:k≤18):zd1 N (k:Int)=some ((10^k:Nat):Int):=by
 unfold zd1
 have:=zco (f:=zd1.r0 N) (fun i=>((k:Int),((10^i:Nat):Int),(i:Int))) k
  (fun i hi=>by
   have:10^(i+1)≤10^18:=zdj (by omega);rw [Nat.pow_succ]at this;simp only [zd1.r0,zd1.b0,dct (show(i:Int)<(k:Int)by omega),ctr];rw [w6e (n:=((10^i:Nat):Int)*10),w6e,Nat.pow_succ];simp only [Int.natCast_add,Int.natCast_mul,Int.natCast_one];rfl)
  (by simp only [zd1.r0,zd1.b0,dcf (show ¬(k:Int)<(k:Int)by omega),cfa]) (N:=N) (by omega)
 simp only [Nat.pow_zero,nc0]at this
 rw [show(1:Int)=((1:Nat):Int)from rfl,this]
 rfl
theorem zaar (N:Nat) (hN:100<N) (n len:Nat) (hn:n≤1000000000000000000) (hl:len≤20):zde N (n:Int) (len:Int)=some (zlj n len):=by
 unfold zde
 have:=zco (f:=zde.r0 N) (fun i=>(((n/10^i:Nat):Int),zhg (fun e=>((n/10^e%10:Nat):Int)) len i,(len:Int)-1-(i:Int))) len
  (fun i hi=>by
   have hl2:n/10^i≤n:=Nat.div_le_self _ _;have hl:(zhg (fun e=>((n/10^e%10:Nat):Int)) len i).length=len:=zvo _ _ _;have e1:n/10^(i+1)=n/10^i/10:=by rw [Nat.pow_succ,←Nat.div_div_eq_div_mul]
   have e2:(zhg (fun e=>((n/10^e%10:Nat):Int)) len i).set (len-1-i) ((n/10^i%10:Nat):Int)=zhg (fun e=>((n/10^e%10:Nat):Int)) len (i+1):=zs0 _ len i hi;rw [e1,←e2];generalize (zhg (fun e=>((n/10^e%10:Nat):Int)) len i)=P at*;generalize n/10^i=q at*;simp only [zde.r0,zde.b0,dct (show(len:Int)-1-(i:Int)≥0 by omega),ctr,hl];rw [ifp,ifp];obtain⟨x,hx⟩:∃x,P[((len:Int)-1-(i:Int)).toNat]?=some x:=zge (by omega);rw [hx];simp only [obs];rw [tde,tme,w6e (n:=(q:Int)/10),w6e (n:=(len:Int)-1-(i:Int)-1),show((len:Int)-1-(i:Int)).toNat=len-1-i by omega,show(q:Int)%10=((q%10:Nat):Int)by omega,show(q:Int)/10=((q/10:Nat):Int)by omega,show(len:Int)-1-(i:Int)-1=(len:Int)-1-((i+1:Nat):Int)by omega])
  (by simp only [zde.r0,zde.b0,dcf (show ¬(len:Int)-1-(len:Int)≥0 by omega),cfa]) (N:=N) (by omega)
 rw [ifp,ifp,zbe (by omega),ctr,itn,w6e]
 simp only [Nat.pow_zero,Nat.div_one,zsz,nc0,Int.sub_zero,zs1]at this
 rw [this]
 rfl
theorem ztq (N:Nat) (hN:100<N) (v k:Nat) (hv:v<9223372036854775807) (hk:k≤8):zay N (v:Int) (k:Int)=some (zdg (zir v k)):=by
 unfold zay
 have:=zco (f:=zay.r0 N) (fun i=>(((v/256^i:Nat):Int),(k:Int),zhg (fun e=>((v/256^e%256:Nat):Int)) k i,(i:Int))) k
  (fun i hi=>by
   have hl2:v/256^i≤v:=Nat.div_le_self _ _;have hl:(zhg (fun e=>((v/256^e%256:Nat):Int)) k i).length=k:=zvo _ _ _;have e1:v/256^(i+1)=v/256^i/256:=by rw [Nat.pow_succ,←Nat.div_div_eq_div_mul]
   have e2:(zhg (fun e=>((v/256^e%256:Nat):Int)) k i).set (k-1-i) ((v/256^i%256:Nat):Int)=zhg (fun e=>((v/256^e%256:Nat):Int)) k (i+1):=zs0 _ k i hi;rw [e1,←e2];generalize (zhg (fun e=>((v/256^e%256:Nat):Int)) k i)=P at*;generalize v/256^i=q at*;simp only [zay.r0,zay.b0,dct (show(i:Int)<(k:Int)by omega),ctr,hl];rw [w6e (n:=(k:Int)-1),w6e (n:=(k:Int)-1-(i:Int)),ifp,ifp];obtain⟨x,hx⟩:∃x,P[((k:Int)-1-(i:Int)).toNat]?=some x:=zge (by omega);rw [hx];simp only [obs];rw [tde,tme,w6e (n:=(q:Int)/256),w6e (n:=(i:Int)+1),zmw (by omega) (by omega),show((k:Int)-1-(i:Int)).toNat=k-1-i by omega,show(q:Int)%256=((q%256:Nat):Int)by omega,show(q:Int)/256=((q/256:Nat):Int)by omega];rfl)
  (by simp only [zay.r0,zay.b0,dcf (show ¬(k:Int)<(k:Int)by omega),cfa]) (N:=N) (by omega)
 rw [ifp,ifp,zbe (by omega),ctr,itn]
 simp only [Nat.pow_zero,Nat.div_one,zsz,nc0]at this
 rw [this,obs,zs1]
 rfl
theorem zach (f:Int→Int) (l:List Int) (m i:Nat) {x:Int} (hx:l[i]?=some x) (hm:i<m):((l.take i).map f++List.replicate (m-i) 0)[i]?=some 0∧((l.take i).map f++List.replicate (m-i) 0).set i (f x)=(l.take (i+1)).map f++List.replicate (m-(i+1)) 0:=by
 obtain⟨h1,h2⟩:=gei hx
 have hl:((l.take i).map f).length=i:=by rw [lnm,lnt];omega
 have hd:List.replicate (m-i) (0:Int)=0::List.replicate (m-(i+1)) 0:=by rw [show m-i=m-(i+1)+1 by omega,List.replicate_succ]
 constructor
 · rw [List.getElem?_append_right (by omega),hl,Nat.sub_self,hd];rfl
 · rw [List.set_append_right _ _ (by omega),hl,Nat.sub_self,hd,zhp l i hx,List.map_append,List.append_assoc];rfl
theorem z0i (n:Int) (k:Nat) (m:Nat) (h:(m:Int)=n∨(m:Int)=n+(256^k:Nat)):zir m k=z5w n k:=by
 unfold zir z5w
 refine List.map_congr_left fun j hj=> ?_
 have hjk:=List.mem_range.1 hj
 have hc:(256:Int)^(k-1-j)=((256^(k-1-j):Nat):Int):=by rw [Int.natCast_pow];rfl
 rw [hc]
 rcases h with h|h
 · rw [←h];rfl
 · have hk:(256^k:Nat)=256^(k-1-j)*(256*256^j):=by
    rw [←Nat.pow_succ',←Nat.pow_add];congr 1;omega
   have hp:((256^(k-1-j):Nat):Int)≠0:=by
    have:0<256^(k-1-j):=Nat.pow_pos (by decide);omega
   have e:((m/256^(k-1-j)%256:Nat):Int)=(m:Int)/((256^(k-1-j):Nat):Int)%256:=rfl;rw [e,h,hk,Int.natCast_mul,Int.add_mul_ediv_left _ _ hp,Int.natCast_mul];exact Int.add_mul_emod_self_left _ _ _
theorem zact (N:Nat) (hN:100<N) {t:DataType} (ht:zij t) (n:Int) (hn: -((10^t.Length.toNat:Nat):Int)<n∧n<((10^t.Length.toNat:Nat):Int)):za8 N t ⟨n,⟨#[]⟩⟩=some (zn0 t n):=by
 obtain⟨⟨l1,l2⟩,l3,l4⟩:=zgb ht
 have hp2:10^t.Length.toNat≤10^15:=zdj (by omega)
 have hsz:=zua ht
 have ht':=ht
 obtain⟨h0,h1,h2⟩:=ht'
 have hd:=zaar N hN n.natAbs t.Length.toNat (by omega) (by omega)
 rw [Int.toNat_of_nonneg (by omega)]at hd
 unfold za8 zn0 zfz
 simp only [eD,zbc]
 rw [dcf (show ¬t.Kind=0 by omega),cfa]
 by_cases k3:t.Kind=3
 · rw [dct k3,ctr,ifp k3,zjk h0];have hs:(szE t).toNat≤4∧0<(szE t).toNat∧szE t=((szE t).toNat:Int)∧((szE t).toNat=2∨(szE t).toNat=4)∧((szE t).toNat=2→t.Length=4):=by
    have h9:=h0;unfold zb3 at h9;rw [ifn,ifn,ifp k3]at h9;rw [hsz,ifn,ifp k3];split at h9
    · split
      · exact⟨by decide,by decide,by decide,by decide,fun h=>by cases h⟩
      · exact⟨by decide,by decide,by decide,by decide,fun _=>by omega⟩
    · cases h9
   obtain⟨s1,s2,s3,s4,s5⟩:=hs;generalize (szE t).toNat=k at*;rw [s3];simp only [obs]
   by_cases hneg:n<0
   · rw [dct hneg,ctr,w6e (n:=8*(k:Int)),ifn];have hpow:(1:Int)*2^(min (8*(k:Int)).toNat 64)=((256^k:Nat):Int):=by
      rcases s4 with rfl|rfl<;>decide
     have hlow: -((256^k:Nat):Int)≤n:=by
      rcases s4 with rfl|rfl
      · have:=s5 rfl;rw [this]at hn;have:(10^(4:Int).toNat:Nat)=10000:=by decide
        rw [this]at hn;have:(256^2:Nat)=65536:=by decide
        omega
      · have hl9:10^t.Length.toNat≤10^9:=by
         refine zdj ?_;unfold zb3 at h0;rw [ifn,ifn,ifp k3]at h0;split at h0
         · omega
         · cases h0
        have:(256^4:Nat)=4294967296:=by decide
        omega
     have hup:256^k≤4294967296:=by rcases s4 with rfl|rfl<;>decide
     rw [hpow,w6e (n:=((256^k:Nat):Int)),w6e];obtain⟨m,hm⟩:∃m:Nat,(m:Int)=n+(256^k:Nat):=⟨(n+(256^k:Nat)).toNat,by omega⟩;rw [←hm,ztq N hN m k (by omega) (by omega),z0i n k m (.inr hm)];rfl
   · rw [dcf hneg,cfa];obtain⟨m,hm⟩:∃m:Nat,(m:Int)=n:=⟨n.toNat,by omega⟩;rw [←hm,ztq N hN m k (by omega) (by omega),z0i (m:Int) k m (.inl rfl)];rfl
 · rw [dcf k3,cfa,ifn k3,zrx (by omega) (by omega)];simp only [obs];rw [hd];simp only [obs];have hlen:=zsm n.natAbs t.Length.toNat;have hrange:=zrt (n:=n.natAbs) (len:=t.Length.toNat);have hpac:=zro (t:=t) l1 n;have epac:zse t n=(if t.Length%2=0 then [0]else [])++zlj n.natAbs t.Length.toNat++[if n<0 then 13 else 15]:=rfl;generalize zlj n.natAbs t.Length.toNat=d at*
   by_cases k2:t.Kind=2
   · rw [dct k2,ctr,ifp k2,ifp,ifp,zbe (by omega),ctr];have lp:=zco (f:=za8.r1 N) (fun i=>(d,(d.take i).map (· +240)++List.replicate (d.length-i) 0,(i:Int),t,(⟨n,⟨#[]⟩⟩:Value))) d.length
      (fun i hi=>by
       obtain⟨x,hx⟩:∃x,d[i]?=some x:=zge hi;obtain⟨e1,e2⟩:=zach (· +240) d d.length i hx hi;have hxr:=hrange x (lmg hx);have hl:((d.take i).map (· +240)++List.replicate (d.length-i) 0).length=d.length:=by rw [lna,lnm,lnt,lnr];omega
       simp only [za8.r1,za8.b1,dct (show(i:Int)<t.Length by omega),ctr,hl];rw [ifp,ifp,itn,hx];simp only [obs];rw [ifp,ifp,e1];simp only [obs];rw [w6e (n:=240+x),zmw (by omega) (by omega),w6e,Int.add_comm 240 x,e2];rfl)
      (by simp only [za8.r1,za8.b1,dcf (show ¬(d.length:Int)<t.Length by omega),cfa]) (N:=N) (by omega)
     simp only [List.take_zero,nc0,List.map_nil,List.nil_append,List.take_length,Nat.sub_self,Nat.sub_zero,List.replicate_zero,List.append_nil]at lp;rw [←hlen,lp];simp only [obs,lnm]
     by_cases hneg:n<0
     · rw [dct hneg,ctr,w6e (n:=t.Length-1),ifp,ifp];have hi:t.Length-1=((d.length-1:Nat):Int):=by omega
       have hx:d[d.length-1]?=some (d.getD (d.length-1) 0):=by rw [gdd,lge (by omega)];rfl
       have hxr:=hrange _ (lmg hx);rw [hi,itn,hx];simp only [obs];rw [ifp,ifp,List.getElem?_map,hx];simp only [Option.map_some,obs];rw [w6e,zmw (by omega) (by omega)]
       congr 2
       conv=>lhs;rw [show d.map (· +240)=(d.take (d.length-1)).map (· +240)++[d.getD (d.length-1) 0+240]from zrg (by omega)]
       have hl:((d.take (d.length-1)).map (· +240)).length=d.length-1:=by rw [lnm,lnt];omega
       rw [List.set_append_right _ _ (by omega),hl,Nat.sub_self];unfold zze
       congr 1
       show [_]=[_]
       congr 1
       simp only [ctr];omega
     · rw [dcf hneg,cfa,zrg (by omega)]
   · rw [dcf k2,cfa,ifn k2];have lp:∀(l:List Int) (m:Nat),l.length=2*m→m≤20→(∀d∈l,0≤d∧d<16)→zh (za8.r3 N) N (l,List.replicate m 0,0)=some (l,zi7 l,(m:Int)):=fun l m hl hm hr=>by
      have:=zco (f:=za8.r3 N) (fun i=>(l,zi7 (l.take (2*i))++List.replicate (m-i) 0,(i:Int))) m
       (fun i hi=>by
        obtain⟨x,hx⟩:∃x,l[2*i]?=some x:=zge (by omega);obtain⟨y,hy⟩:∃y,l[2*i+1]?=some y:=zge (by omega);obtain⟨x1,x2⟩:=hr x (lmg hx);obtain⟨y1,y2⟩:=hr y (lmg hy);have hlt:(l.take (2*i)).length=2*i:=by rw [lnt];omega
        have hpl:=zqy i _ hlt;have hl2:(zi7 (l.take (2*i))++List.replicate (m-i) 0).length=m:=by rw [lna,hpl,lnr];omega
        have hd:List.replicate (m-i) (0:Int)=0::List.replicate (m-(i+1)) 0:=by rw [show m-i=m-(i+1)+1 by omega,List.replicate_succ]
        have e1:(zi7 (l.take (2*i))++List.replicate (m-i) 0)[i]?=some 0:=by rw [List.getElem?_append_right (by omega),hpl,Nat.sub_self,hd];rfl
        have e2:(zi7 (l.take (2*i))++List.replicate (m-i) 0).set i (16*x+y)=zi7 (l.take (2*(i+1)))++List.replicate (m-(i+1)) 0:=by
         rw [List.set_append_right _ _ (by omega),hpl,Nat.sub_self,hd,show 2*(i+1)=2*i+1+1 by omega,zhp _ _ hy,zhp _ _ hx,List.append_assoc,show([x]++[y]:List Int)=[x,y]from rfl,zvq i _ _ _ hlt,List.append_assoc];rfl
        simp only [za8.r3,za8.b3,hl2,dct (show(i:Int)<(m:Int)by omega),ctr];rw [w6e (n:=2*(i:Int)),w6e (n:=2*(i:Int)+1),ifp,ifp,show(2*(i:Int)).toNat=2*i by omega,hx];simp only [obs];rw [ifp,ifp,show(2*(i:Int)+1).toNat=2*i+1 by omega,hy];simp only [obs];rw [ifp,ifp,itn,e1];simp only [obs];rw [w6e (n:=16*x),w6e (n:=16*x+y),zmw (by omega) (by omega),w6e,e2];rfl)
       (by simp only [za8.r3,za8.b3];rw [lna,zqy m _ (by rw [lnt];omega),Nat.sub_self,lnr,Nat.add_zero,dcf (show ¬(m:Int)<(m:Int)by omega),cfa]) (N:=N) (by omega)
      simp only [Nat.mul_zero,List.take_zero,nc0,Nat.sub_zero,Nat.sub_self,List.replicate_zero,List.append_nil]at this;rw [show zi7 []=[]from rfl,List.nil_append,←hl,List.take_length]at this;exact this
     have lpp:=lp (zse t n) _ hpac.1 (by omega) hpac.2;have hpl:=hpac.1;rw [zh4,show decide (t.Length.tmod 2=0)=decide (t.Length%2=0)by rw [tme]];simp only [obs];have hsg:w6 (15-w6 (2*cond (decide (n<0)) 1 0))=if n<0 then 13 else 15:=by
      by_cases hneg:n<0
      · rw [dct hneg,ifp hneg];decide
      · rw [dcf hneg,ifn hneg];decide
     rw [hsg]
     by_cases he:t.Length%2=0
     · rw [ifp he]at epac;rw [dct he,ctr,zbe (by simp only [lnc,ln0];omega),ctr,←epac,zbe (by simp only [lna,lnc,ln0];omega),ctr,tde,w6e,ifp,ifp,zbe (by omega),ctr,show((zse t n).length:Int)/2=((t.Length.toNat/2+1:Nat):Int)by omega,itn,lpp];rfl
     · rw [ifn he,List.nil_append]at epac;rw [dcf he,cfa,zbe (by simp only [lnc,ln0];omega),ctr,←epac,tde,w6e,ifp,ifp,zbe (by omega),ctr,show((zse t n).length:Int)/2=((t.Length.toNat/2+1:Nat):Int)by omega,itn,lpp];rfl
theorem z49:∀(l:List UInt8) (i:Nat) (x:UInt8),l[i/2]?=some x→(zol l)[i]?=some (((if i%2=1 then x.toNat%16 else x.toNat/16:Nat):Nat):Int)
 | [],i,x,h=>by simp at h
 | y::l,0,x,h=>by
  simp only [Nat.zero_div,List.getElem?_cons_zero,Option.some.injEq]at h;subst h;rfl
 | y::l,1,x,h=>by
  simp only [show 1/2=0 from rfl,List.getElem?_cons_zero,Option.some.injEq]at h;subst h;rfl
 | y::l,i+2,x,h=>by
  rw [show(i+2)/2=i/2+1 by omega,List.getElem?_cons_succ]at h;have:=z49 l i x h;have e:zol (y::l)=((y.toNat/16:Nat):Int)::((y.toNat%16:Nat):Int)::zol l:=rfl;rw [e,List.getElem?_cons_succ,List.getElem?_cons_succ,this]
  congr 3
  rw [show(i+2)%2=i%2 by omega]
theorem z2z (n h:Int) (hn: -9223372036854775807≤n∧n≤9223372036854775807):zfx n h=some (if h=11∨h=13 then-n else n,decide (h≥10)):=by
 unfold zfx
 rw [w6e,zbc,zbc]
 by_cases h1:h=11
 · rw [dct h1,ifp (.inl h1),Int.zero_sub];rfl
 · rw [dcf h1]
   by_cases h2:h=13
   · rw [dct h2,ifp (.inr h2),Int.zero_sub];rfl
   · rw [dcf h2,ifn];rfl
theorem z6p (n:Nat) (bad:Nat→Bool) (f:Nat→Value × Int × Int):(List.range n).any bad=((List.range n).findSome? (fun i=>if bad i=true then some (f i)else none)).isSome:=by
 rw [Bool.eq_iff_iff,List.any_eq_true,List.findSome?_isSome_iff]
 constructor
 · rintro ⟨x,hx,hb⟩
   exact⟨x,hx,by rw [ifp hb];rfl⟩
 · rintro ⟨x,hx,hb⟩
   refine⟨x,hx,?_⟩;split at hb
   · assumption
   · cases hb
def zqd:Value:=⟨0,⟨#[]⟩⟩
theorem zacl (N:Nat) (hN:2000<N) (t:DataType) (hk:t.Kind=2) (b:ByteArray) (hb:0<b.size) (hb3:b.size≤15) (hl:(b.size:Int)=t.Length):
 ∃v a e,zbk N b=some (v,a,e)∧(match zj4 t b with|some n=>v.N=n∧e=0|none=>e≠0):=by
 have hd:zj4 t b=zxz (zg7 (bl b)) t.Length:=by unfold zj4;rw [ifn,ifn]
 have hzl:(zg7 (bl b)).length=b.size+1:=by unfold zg7 zix;rw [lna,lnm,lns,zc5]
 have hzs:znw (zg7 (bl b))=(((bl b).getD (b.size-1) 0).toNat/16:Nat):=by
  unfold znw;rw [hzl,Nat.add_sub_cancel];unfold zg7;have hl2:(zix (bl b)).length=b.size:=by unfold zix;rw [lnm,zc5]
  rw [gdd,List.getElem?_append_right (by omega),hl2,Nat.sub_self];rfl
 have hzd:∀i,i<b.size→∀x,(bl b)[i]?=some x→(zg7 (bl b)).getD i 0=((x.toNat%16:Nat):Int):=fun i hi x hx=>by
  have hl2:(zix (bl b)).length=b.size:=by unfold zix;rw [lnm,zc5]
  unfold zg7;rw [gdd,List.getElem?_append_left (by omega)];unfold zix;rw [List.getElem?_map,hx];rfl
 have hzt:(zg7 (bl b)).take b.size=zix (bl b):=by
  have hl2:(zix (bl b)).length=b.size:=by unfold zix;rw [lnm,zc5]
  unfold zg7;rw [List.take_append_of_le_length (by omega),List.take_of_length_le (by omega)]
 have hx1:(bl b)[b.size-1]?=some ((bl b).getD (b.size-1) 0):=zul (by rw [zc5];omega)
 have hlb:=((bl b).getD (b.size-1) 0).toNat_lt
 generalize hS:((bl b).getD (b.size-1) 0).toNat/16=S at*
 have hS16:S<16:=by omega
 rw [hd]
 unfold zbk
 have lp:=zd5 (f:=zbk.r0 N) (fun i=>(b,zcy ((zix (bl b)).take i),(if i=b.size then(S:Int)else 15),(i:Int),zqd))
  (fun i=>if(decide ((zg7 (bl b)).getD i 0>9)||(decide (i=b.size-1)&&decide ((S:Int)<10)))=true then some (zqd,(i:Int),(21:Int))else none) b.size
  (fun i hi=>by
   obtain⟨x,hx⟩:∃x,(bl b)[i]?=some x:=zge (by rw [zc5];exact hi);have hxl:=x.toNat_lt;have hnx:(zix (bl b))[i]?=some ((x.toNat%16:Nat):Int):=by unfold zix;rw [List.getElem?_map,hx];rfl
   have hf:=zt0 ((zix (bl b)).take i) _ (List.reverse_reverse _).symm fun d hd=>by
    obtain⟨y,_,rfl⟩:=List.mem_map.1 (List.mem_of_mem_take hd);omega
   have hpow:10^((zix (bl b)).take i).length≤10^15:=zdj (by rw [lnt];omega);have hm:(w6 (x.toNat:Int)).tmod 16=((x.toNat%16:Nat):Int):=by rw [w6e,tme];omega
   have hm2:((x.toNat:Int).tmod 16)=((x.toNat%16:Nat):Int):=by rw [tme];omega
   have hdv:w6 ((w6 (x.toNat:Int)).tdiv 16)=((x.toNat/16:Nat):Int):=by rw [w6e (n:=(x.toNat:Int)),tde,w6e];omega
   have hnext:zcy ((zix (bl b)).take (i+1))=10*zcy ((zix (bl b)).take i)+((x.toNat%16:Nat):Int):=by rw [zhp _ _ hnx,zpi];omega
   rw [hnext];generalize zcy ((zix (bl b)).take i)=F at*;rw [hzd i hi x hx];simp only [zbk.r0,zbk.b0,dct (show(i:Int)<(b.size:Int)by omega),ctr,zl3,hx,obs,hm,hm2,hdv];rw [w6e (n:=(b.size:Int)-1),w6e (n:=(i:Int)+1),w6e (n:=10*F),w6e (n:=10*F+((x.toNat%16:Nat):Int)),zbc]
   by_cases hi1:i=b.size-1
   · have hxe:x=(bl b).getD (b.size-1) 0:=by rw [hi1]at hx;rw [hx1]at hx;exact(Option.some.inj hx).symm
     have hxS:x.toNat/16=S:=by rw [hxe];exact hS
     rw [dct (show(i:Int)=(b.size:Int)-1 by omega),dct hi1,hxS,ifn (show ¬i=b.size by omega),ifp (show i+1=b.size by omega)];simp only [ctr,Bool.true_and];cases h1:decide ((S:Int)<10)<;>cases h2:decide (((x.toNat%16:Nat):Int)>9)<;>rfl
   · rw [dcf (show ¬(i:Int)=(b.size:Int)-1 by omega),dcf hi1,ifn (show ¬i=b.size by omega),ifn (show ¬i+1=b.size by omega)];simp only [cfa,Bool.false_and,Bool.or_false];cases h2:decide (((x.toNat%16:Nat):Int)>9)<;>rfl)
  (by simp only [zbk.r0,zbk.b0,dcf (show ¬(b.size:Int)<(b.size:Int)by omega),cfa]) (N:=N) (by omega)
 simp only [List.take_zero,nc0]at lp
 rw [show zcy []=0 from rfl,ifn (show ¬0=b.size by omega)]at lp
 rw [show(⟨0,(⟨#[]⟩:ByteArray)⟩:Value)=zqd from rfl,lp]
 simp only [obs]
 have ha:=z6p b.size (fun i=>decide ((zg7 (bl b)).getD i 0>9)||(decide (i=b.size-1)&&decide ((S:Int)<10))) (fun i=>(zqd,(i:Int),(21:Int)))
 have hc:(List.range b.size).any (fun i=>decide ((zg7 (bl b)).getD i 0>9)||(decide (i=b.size-1)&&decide ((S:Int)<10)))=((List.range ((zg7 (bl b)).length-1)).any (znd (zg7 (bl b)) t.Length)||decide (znw (zg7 (bl b))<10)):=by
  rw [hzl,Nat.add_sub_cancel,hzs,Bool.eq_iff_iff,Bool.or_eq_true,List.any_eq_true,List.any_eq_true];constructor
  · rintro ⟨i,hi,hb⟩
    rw [Bool.or_eq_true,Bool.and_eq_true]at hb;rcases hb with hb|⟨_,hb⟩
    · exact .inl ⟨i,hi,by unfold znd;rw [hb,Bool.true_or]⟩
    · exact .inr hb
  · rintro (⟨i,hi,hb⟩|hb)
    · refine⟨i,hi,?_⟩;unfold znd at hb;rw [Bool.or_eq_true]at hb;rcases hb with hb|hb
      · rw [hb,Bool.true_or]
      · rw [Bool.and_eq_true]at hb;have h2:=of_decide_eq_true hb.2;rw [hzl]at h2;omega
    · exact⟨b.size-1,by rw [List.mem_range];omega,by rw [hb];simp⟩
 rw [ha]at hc
 unfold zxz
 cases hf:(List.range b.size).findSome? (fun i=>if(decide ((zg7 (bl b)).getD i 0>9)||(decide (i=b.size-1)&&decide ((S:Int)<10)))=true then some (zqd,(i:Int),(21:Int))else none)with
 | some r=>
  obtain⟨i,_,hi⟩:=eof hf;split at hi
  · cases hi;rw [hf]at hc;have hc':((List.range ((zg7 (bl b)).length-1)).any (znd (zg7 (bl b)) t.Length)||decide (znw (zg7 (bl b))<10))=true:=hc.symm;rw [Bool.or_eq_true,decide_eq_true_eq]at hc';rw [ifp hc'];exact⟨_,_,_,rfl,by decide⟩
  · cases hi
 | none=>
  rw [hf]at hc;have hc':((List.range ((zg7 (bl b)).length-1)).any (znd (zg7 (bl b)) t.Length)||decide (znw (zg7 (bl b))<10))=false:=hc.symm;rw [Bool.or_eq_false_iff,decide_eq_false_iff_not]at hc';have hf:=zt0 (zix (bl b)) _ (List.reverse_reverse _).symm fun d hd=>by
   obtain⟨y,_,rfl⟩:=List.mem_map.1 hd;omega
  have hpow:10^(zix (bl b)).length≤10^15:=zdj (by unfold zix;rw [lnm,zc5];omega);have hnc:¬((List.range ((zg7 (bl b)).length-1)).any (znd (zg7 (bl b)) t.Length)=true∨znw (zg7 (bl b))<10):=by rw [hc'.1];simpa using hc'.2
  rw [ifn hnc,hzl,Nat.add_sub_cancel,hzt,hzs];simp only [zbu,if_true];rw [show(zix (bl b)).take b.size=zix (bl b)from List.take_of_length_le (by unfold zix;rw [lnm,zc5];omega),z2z _ _ ⟨by omega,by omega⟩];refine⟨_,_,_,rfl,?_,rfl⟩
  by_cases h1:(S:Int)=11∨(S:Int)=13
  · rw [ifp h1]
  · rw [ifn h1]
theorem zaaq (N:Nat) (hN:2000<N) (t:DataType) (hk:t.Kind=1) (b:ByteArray) (hl1:1≤t.Length∧t.Length≤15) (hl:(b.size:Int)=t.Length/2+1):
 ∃v a e,zbg N t b=some (v,a,e)∧(match zj4 t b with|some n=>v.N=n∧e=0|none=>e≠0):=by
 have hd:zj4 t b=zxz (zol (bl b)) t.Length:=by unfold zj4;rw [ifn,ifp hk]
 have hzl:(zol (bl b)).length=2*b.size:=by rw [zac5,zc5]
 have hr:=(zxl (l:=bl b)).1
 rw [hd]
 have zd:=z49 (bl b)
 generalize zol (bl b)=l at*
 have hS:znw l=l.getD (2*b.size-1) 0:=by unfold znw;rw [hzl]
 generalize znw l=S at*
 unfold zbg
 have lp:=zd5 (f:=zbg.r0 N) (fun i=>(b,(if i=2*b.size then(if S=11∨S=13 then-zcy (l.take (2*b.size-1))else zcy (l.take (2*b.size-1)))else zcy (l.take i)),(i:Int),t,zqd))
  (fun i=>if(if i=2*b.size-1 then decide (S<10)else(decide (l.getD i 0>9)||(decide (i=0)&&(decide (t.Length%2=0)&&decide (l.getD i 0≠0)))))=true then some (zqd,((i/2:Nat):Int),(21:Int))else none) (2*b.size)
  (fun i hi=>by
   obtain⟨x,hx⟩:∃x,(bl b)[i/2]?=some x:=zge (by rw [zc5];omega);have hxl:=x.toNat_lt;have hxi:=zd i x hx;have hxd:l.getD i 0=((if i%2=1 then x.toNat%16 else x.toNat/16:Nat):Int):=by rw [gdd,hxi];rfl
   have hf:=zt0 (l.take i) _ (List.reverse_reverse _).symm fun d hd=>hr d (List.mem_of_mem_take hd);have hpow:10^(l.take i).length≤10^16:=zdj (by rw [lnt];omega);have hm:((w6 (x.toNat:Int)).tmod 16)=((x.toNat%16:Nat):Int):=by rw [w6e,tme];omega
   have hdv:w6 ((w6 (x.toNat:Int)).tdiv 16)=((x.toNat/16:Nat):Int):=by rw [w6e (n:=(x.toNat:Int)),tde,w6e];omega
   have hnext:zcy (l.take (i+1))=10*zcy (l.take i)+l.getD i 0:=by rw [zhp _ _ hxi,zpi,hxd];omega
   have hidx:w6 ((i:Int).tdiv 2)=((i/2:Nat):Int):=by rw [tde,w6e];omega
   have hpar:((i:Int).tmod 2==1)=decide (i%2=1):=by rw [tme,zbc];simp only [decide_eq_decide];omega
   have hev:(t.Length.tmod 2==0)=decide (t.Length%2=0):=by rw [tme,zbc]
   have hw1:w6 (2*(b.size:Int))=((2*b.size:Nat):Int):=by rw [w6e];omega
   have hw2:w6 (((2*b.size:Nat):Int)-1)=((2*b.size-1:Nat):Int):=by rw [w6e];omega
   have hi0:((i:Int)==0)=decide (i=0):=by rw [zbc];simp only [decide_eq_decide];omega
   have hil:((i:Int)==((2*b.size-1:Nat):Int))=decide (i=2*b.size-1):=by rw [zbc];simp only [decide_eq_decide];omega
   have sg:=z2z (zcy (l.take i)) (l.getD i 0) ⟨by omega,by omega⟩;rw [hxd]at hnext sg⊢;simp only [zbg.r0,zbg.b0,hw1,hw2,dct (show(i:Int)<((2*b.size:Nat):Int)by omega),ctr,hidx,zl3,hx,obs,hm,hdv,hpar,hev,hi0,hil];rw [w6e (n:=(i:Int)+1),ifn (show ¬i=2*b.size by omega)]
   by_cases hp:i%2=1
   · rw [ifp hp]at hnext sg;rw [dct hp,ctr];simp only [ifp hp];have hH:x.toNat%16<16:=by omega
     by_cases hl:i=2*b.size-1
     · have hSx:S=((x.toNat%16:Nat):Int):=by rw [hS,←hl,hxd,ifp hp]
       rw [dct hl,ifp hl,ifp (show i+1=2*b.size by omega),←hl,hSx,sg,dcf (show ¬i=0 by omega)];simp only [ctr,cfa,obs];cases h1:decide (((x.toNat%16:Nat):Int)<10)<;>rfl
     · rw [dcf hl,ifn hl,ifn (show ¬i+1=2*b.size by omega),hnext,dcf (show ¬i=0 by omega)];generalize x.toNat%16=h at*;generalize zcy (l.take i)=F at*;simp only [ctr,cfa,obs,Bool.false_and,Bool.or_false];rw [w6e (n:=10*F),w6e (n:=10*F+(h:Int))];cases h1:decide ((h:Int)>9)<;>rfl
   · rw [ifn hp]at hnext sg;rw [dcf hp,cfa];simp only [ifn hp];have hl:¬i=2*b.size-1:=by omega
     have hH:x.toNat/16<16:=by omega
     rw [dcf hl,ifn hl,ifn (show ¬i+1=2*b.size by omega),hnext];generalize x.toNat/16=h at*;generalize zcy (l.take i)=F at*;simp only [ctr,cfa,obs];rw [w6e (n:=10*F),w6e (n:=10*F+(h:Int)),zdq];cases h1:decide ((h:Int)>9)<;>cases h2:decide (i=0)<;>cases h3:decide (t.Length%2=0)<;>cases h4:decide ((h:Int)≠0)<;>rfl)
  (by
   have hw1:w6 (2*(b.size:Int))=((2*b.size:Nat):Int):=by rw [w6e];omega
   simp only [zbg.r0,zbg.b0,hw1,dcf (show ¬((2*b.size:Nat):Int)<((2*b.size:Nat):Int)by omega),cfa]) (N:=N) (by omega)
 simp only [List.take_zero,nc0,if_true]at lp
 rw [show zcy []=0 from rfl,ifn (show ¬0=2*b.size by omega)]at lp
 rw [show(⟨0,(⟨#[]⟩:ByteArray)⟩:Value)=zqd from rfl,lp]
 simp only [obs]
 have ha:=z6p (2*b.size) (fun i=>(if i=2*b.size-1 then decide (S<10)else(decide (l.getD i 0>9)||(decide (i=0)&&(decide (t.Length%2=0)&&decide (l.getD i 0≠0)))))) (fun i=>(zqd,((i/2:Nat):Int),(21:Int)))
 have hc:(List.range (2*b.size)).any (fun i=>(if i=2*b.size-1 then decide (S<10)else(decide (l.getD i 0>9)||(decide (i=0)&&(decide (t.Length%2=0)&&decide (l.getD i 0≠0))))))=((List.range (l.length-1)).any (znd l t.Length)||decide (S<10)):=by
  rw [hzl,Bool.eq_iff_iff,Bool.or_eq_true,List.any_eq_true,List.any_eq_true];have key:∀i,i<2*b.size-1→(decide (l.getD i 0>9)||(decide (i=0)&&(decide (t.Length%2=0)&&decide (l.getD i 0≠0))))=znd l t.Length i:=by
   intro i hi;unfold znd;have hxi:l[i]?=some (l.getD i 0):=by rw [gdd,lge (by omega)];rfl
   have:=hr _ (lmg hxi);rw [hzl];rw [Bool.eq_iff_iff];simp only [Bool.or_eq_true,Bool.and_eq_true,decide_eq_true_eq];omega
  constructor
  · rintro ⟨i,hi,hb⟩
    have hi':=List.mem_range.1 hi;split at hb
    · exact .inr hb
    · rw [key i (by omega)]at hb;exact .inl ⟨i,List.mem_range.2 (by omega),hb⟩
  · rintro (⟨i,hi,hb⟩|hb)
    · have hi':=List.mem_range.1 hi;refine⟨i,List.mem_range.2 (by omega),?_⟩;rw [ifn,key i hi'];exact hb
    · exact⟨2*b.size-1,List.mem_range.2 (by omega),by rw [ifp rfl];exact hb⟩
 rw [ha]at hc
 unfold zxz
 rw [show znw l=S by unfold znw;rw [hzl];exact hS.symm]
 cases hf:(List.range (2*b.size)).findSome? (fun i=>if(if i=2*b.size-1 then decide (S<10)else(decide (l.getD i 0>9)||(decide (i=0)&&(decide (t.Length%2=0)&&decide (l.getD i 0≠0)))))=true then some (zqd,((i/2:Nat):Int),(21:Int))else none)with
 | some r=>
  obtain⟨i,_,hi⟩:=eof hf
  by_cases hq:(if i=2*b.size-1 then decide (S<10)else(decide (l.getD i 0>9)||(decide (i=0)&&(decide (t.Length%2=0)&&decide (l.getD i 0≠0)))))=true
  · rw [ifp hq]at hi;cases hi;rw [hf]at hc;have hc':((List.range (l.length-1)).any (znd l t.Length)||decide (S<10))=true:=hc.symm;rw [Bool.or_eq_true,decide_eq_true_eq]at hc';rw [ifp hc'];exact⟨_,_,_,rfl,by decide⟩
  · rw [ifn hq]at hi;cases hi
 | none=>
  rw [hf]at hc;have hc':((List.range (l.length-1)).any (znd l t.Length)||decide (S<10))=false:=hc.symm;rw [Bool.or_eq_false_iff,decide_eq_false_iff_not]at hc';have hnc:¬((List.range (l.length-1)).any (znd l t.Length)=true∨S<10):=by rw [hc'.1];simpa using hc'.2
  rw [ifn hnc,hzl];exact⟨_,_,_,rfl,rfl,rfl⟩
theorem zw8 (N:Nat) (hN:2000<N) {t:DataType} (ht:zij t) {b:ByteArray} (hb:(b.size:Int)=szE t):
 ∃v a e,zhf N t b=some (v,a,e)∧(match zj4 t b with|some n=>v.N=n∧e=0|none=>e≠0):=by
 obtain⟨⟨l1,l2⟩,l3,l4⟩:=zgb ht
 have hsz:=zua ht
 have ht':=ht
 obtain⟨h0,h1,h2⟩:=ht'
 unfold zhf
 rw [zyc,h0]
 simp only [obs,bsf,cfa,zbc]
 rw [dcf (show ¬t.Kind=4 by omega),dcf (show ¬t.Kind=0 by omega),zjk h0]
 simp only [obs,cfa]
 rw [hb]
 simp only [bsf,cfa]
 by_cases hk:t.Kind=3
 · rw [dct hk,ctr];have hs4:b.size≤4∧0<b.size:=by
    rw [hsz,ifn,ifp hk]at hb;split at hb<;>omega
   have hbig:zbt N b 0 (szE t)=some ((beV (bl b):Nat):Int):=by
    have:=zyd N (by omega) b 0 b.size (by omega) (by omega) (by omega);rw [dr0,←zc5,List.take_length,zc5,hb]at this;exact this
   obtain⟨x0,hx0⟩:∃x,(bl b)[0]?=some x:=zge (by rw [zc5];omega);have i0:zil b 0=some x0:=by rw [show(0:Int)=((0:Nat):Int)from rfl,zl3,hx0]
   have hx00:(bl b).getD 0 0=x0:=by rw [gdd,hx0];rfl
   have hp:=zzt N (by omega) t.Length.toNat (by omega);rw [Int.toNat_of_nonneg (by omega)]at hp;have hp2:10^t.Length.toNat≤10^15:=zdj (by omega);have hp3:=zee t.Length.toNat;have hv:=z6n (bl b);have hv2:256^(bl b).length≤256^4:=Nat.pow_le_pow_right (by decide) (by rw [zc5];omega);rw [hbig,i0];simp only [obs,zf9,hp];have hbd:z0n (bl b)=if 128≤x0.toNat then(beV (bl b):Int)-(256^(bl b).length:Nat)else(beV (bl b):Int):=by unfold z0n;rw [hx00]
   unfold zj4;rw [ifp hk,hbd];have hsz8:w6 (8*szE t)=((8*b.size:Nat):Int):=by rw [←hb,w6e];omega
   rw [hsz8];have hpow:(1:Int)*2^(min (((8*b.size:Nat):Int)).toNat 64)=((256^(bl b).length:Nat):Int):=by
    rw [itn,Nat.min_eq_left (by omega),Int.one_mul,zc5,show(256:Nat)=2^8 from rfl,←Nat.pow_mul,Int.natCast_pow];rfl
   rw [hpow];generalize 256^(bl b).length=P at*;generalize 10^t.Length.toNat=T at*;rw [w6e (n:=(T:Int)-1),w6e (n:=0-((T:Int)-1)),w6e (n:=(P:Int))]
   by_cases hx:128≤x0.toNat
   · rw [dct (show(x0.toNat:Int)≥128 by omega),ctr,ifn,ifp hx,w6e,zg2];simp only [obs]
     by_cases hr: -(T:Int)<(beV (bl b):Int)-(P:Int)∧(beV (bl b):Int)-(P:Int)<(T:Int)
     · rw [ifp hr,zaq.2 ⟨by omega,by omega⟩];exact⟨_,_,_,rfl,rfl,rfl⟩
     · rw [ifn hr,show inB ((beV (bl b):Int)-(P:Int)) (0-((T:Int)-1)) ((T:Int)-1)=false by
        cases hb:inB ((beV (bl b):Int)-(P:Int)) (0-((T:Int)-1)) ((T:Int)-1)with
        | false=>rfl
        | true=>have:=zaq.1 hb;omega]
       exact⟨_,_,_,rfl,by decide⟩
   · rw [dcf (show ¬(x0.toNat:Int)≥128 by omega),cfa,ifn hx,zg2];simp only [obs]
     by_cases hr: -(T:Int)<(beV (bl b):Int)∧(beV (bl b):Int)<(T:Int)
     · rw [ifp hr,zaq.2 ⟨by omega,by omega⟩];exact⟨_,_,_,rfl,rfl,rfl⟩
     · rw [ifn hr,show inB ((beV (bl b):Int)) (0-((T:Int)-1)) ((T:Int)-1)=false by
        cases hb:inB ((beV (bl b):Int)) (0-((T:Int)-1)) ((T:Int)-1)with
        | false=>rfl
        | true=>have:=zaq.1 hb;omega]
       exact⟨_,_,_,rfl,by decide⟩
 · rw [dcf hk,cfa]
   by_cases hk2:t.Kind=2
   · rw [dct hk2,ctr];have hl:(b.size:Int)=t.Length:=by rw [hb,hsz,ifn,ifn hk]
     obtain⟨v,a,e,g1,g2⟩:=zacl N hN t hk2 b (by omega) (by omega) hl;rw [g1];exact⟨_,_,_,rfl,g2⟩
   · rw [dcf hk2,cfa];have hk1:t.Kind=1:=by omega
     obtain⟨v,a,e,g1,g2⟩:=zaaq N hN t hk1 b ⟨l1,l2⟩ (by rw [hb,hsz,ifp hk1]);rw [g1];exact⟨_,_,_,rfl,g2⟩
set_option exponentiation.threshold 3000
theorem zoz (l:List Int) (x:Int):dv (l++[x])=dv l+10^l.length*x.toNat:=by
 rw [zte];simp [dv]
theorem zut (l:List Int) (i:Nat) {x:Int} (h:l[i]?=some x):dv (l.take (i+1))=dv (l.take i)+10^i*x.toNat:=by
 have hl:=(gei h).1
 rw [zhp l i h,zoz,lnt,Nat.min_eq_left (Nat.le_of_lt hl)]
theorem zp8 (l:List Int) (i:Nat) {x:Int} (h:l[i]?=some x):dv (l.drop i)=x.toNat+10*dv (l.drop (i+1)):=by
 obtain⟨h1,h2⟩:=gei h
 rw [List.drop_eq_getElem_cons h1,h2];rfl
theorem zp9 {l:List Int} (h:dok l) {x:Int} (h0:0≤x) (h1:x<10):dok (l++[x]):=zv7 h fun d hd=>by
 rcases List.mem_cons.1 hd with rfl|hd
 · exact⟨h0,h1⟩
 · cases hd
theorem z74 {l:List Int} (h:dok l) (hc:zoo l) (hl:l≠[]):10^(l.length-1)≤dv l:=by
 refine cbc fun hn=> ?_
 have:=(zhy (dv l) (l.length-1)).2 (by omega)
 rw [z1v h hc]at this
 have:l.length≠0:=fun h=>hl (List.length_eq_zero_iff.1 h)
 omega
theorem z9m {l:List Int} (h:dok l) (hg:l≠[]→10^(l.length-1)≤dv l):zoo l:=by
 unfold zoo
 intro hlast
 have hne:l≠[]:=by intro h;rw [h]at hlast;cases hlast
 have hg':=hg hne
 have hlen:l.length≠0:=fun h=>hne (List.length_eq_zero_iff.1 h)
 have hx:l[l.length-1]?=some 0:=by rw [←List.getLast?_eq_getElem?];exact hlast
 have:=zut l (l.length-1) hx
 rw [show l.length-1+1=l.length by omega,List.take_length]at this
 have hlt:=z1t (z0j h (l.length-1))
 rw [lnt,Nat.min_eq_left (by omega)]at hlt
 simp only [Int.toNat_zero,Nat.mul_zero,Nat.add_zero]at this
 omega
theorem zq3 {l:List Int} (h:dok l) {i:Nat} {x:Int} (hx:l[i]?=some x):0≤x∧x<10:=h x (lmg hx)
theorem zr0 (N:Nat) (l:List Int) (h:dok l) (hN:l.length<N) (hl:l.length<1000000):zcb N l=some (dg (dv l)):=by
 unfold zcb
 obtain⟨s',h1,h2⟩:=zlq (f:=zcb.r0 N) (fun s=>dok s∧dv s=dv l∧s.length<1000000) (fun s=>s.length) (fun s=>s=dg (dv l))
  (fun s hs=>by
   obtain⟨s1,s2,s3⟩:=hs;simp only [zcb.r0,zcb.b0]
   by_cases h0:s.length=0
   · have hn:s=[]:=List.length_eq_zero_iff.1 h0;right;rw [dcf (by omega)];refine⟨s,rfl,?_⟩;rw [←s2,hn];exact zlk.symm
   · obtain⟨x,hx⟩:∃x,s[s.length-1]?=some x:=zge (by omega);rw [dct (show(s.length:Int)>0 by omega),w6e,show(s.length:Int)-1=((s.length-1:Nat):Int)by omega,zau,hx];simp only [ctr,obs]
     by_cases hz:x=0
     · left;rw [zbc,dct hz,ctr,ifp,ifp];refine⟨_,rfl,⟨?_,?_,?_⟩,?_⟩
       · rw [itn,show(0:Int).toNat=0 from rfl,dr0];exact z0j s1 _
       · rw [itn,show(0:Int).toNat=0 from rfl,dr0,←s2];have:=zut s (s.length-1) hx;rw [show s.length-1+1=s.length by omega,List.take_length,hz]at this;simp only [Int.toNat_zero,Nat.mul_zero,Nat.add_zero]at this;exact this.symm
       · rw [itn,show(0:Int).toNat=0 from rfl,dr0,lnt];omega
       · rw [itn,show(0:Int).toNat=0 from rfl,dr0,lnt];omega
     · right;rw [zbc,dcf hz,cfa];refine⟨s,rfl,?_⟩;rw [←s2];refine(z1v s1 ?_).symm;unfold zoo;rw [List.getLast?_eq_getElem?,hx];intro h;exact hz (Option.some.inj h))
  (N:=N) (s:=l) ⟨h,rfl,hl⟩ hN
 rw [h1,h2]
 rfl
theorem z89 {n:Nat} (h:n≠0):(dg n).length=(dg (n/10)).length+1:=by rw [zpl h,lnc]
theorem zw7 (N:Nat) (hN:1000<N) (n:Int) (hn: -1000000000000000≤n∧n≤1000000000000000) (z:Nat) (hz:z<100):zc0 N n (z:Int)=some ⟨decide (n<0),dg (n.natAbs*10^z)⟩:=by
 unfold zc0 zfz
 rw [ifp,ifp,zbe (by omega),ctr,zrx (by omega) (by omega),itn]
 simp only [obs]
 have hd19:(dg n.natAbs).length≤18:=(zhy _ 18).2 (by omega)
 obtain⟨s',h1,h2⟩:=zlq (f:=zc0.r0 N) (fun s=>∃(l:List Int) (x:Nat),s=(n,l,(x:Int),(⟨false,[]⟩:zL))∧dok l∧dv l+10^l.length*x=n.natAbs*10^z∧l.length+(dg x).length≤200∧x≤1000000000000000)
  (fun s=>(dg s.2.2.1.toNat).length) (fun s=>∃l:List Int,s=(n,l,0,(⟨false,[]⟩:zL))∧dok l∧dv l=n.natAbs*10^z∧l.length≤200)
  (fun s hs=>by
   obtain⟨l,x,rfl,s1,s2,s3,s4⟩:=hs;simp only [zc0.r0,zc0.b0]
   by_cases h0:x=0
   · right;subst h0;refine⟨_,rfl,l,rfl,s1,by rw [←s2];simp,by omega⟩
   · left;have hl:=z89 h0;rw [dct (show(x:Int)>0 by omega),ctr,zbe (by simp only [lnc,ln0];omega),ctr,tme,tde,w6e];refine⟨_,rfl,⟨l++[((x%10:Nat):Int)],x/10,?_,zp9 s1 (by omega) (by omega),?_,?_,by omega⟩,?_⟩
     · rw [show(x:Int)%10=((x%10:Nat):Int)by omega,show(x:Int)/10=((x/10:Nat):Int)by omega]
     · rw [zoz,itn,lna,lns,Nat.pow_succ,←s2,Nat.mul_assoc,Nat.add_assoc,←Nat.mul_add]
       congr 2
       omega
     · rw [lna,lns];omega
     · show(dg ((x:Int)/10).toNat).length<(dg ((x:Int)).toNat).length;rw [itn,show((x:Int)/10).toNat=x/10 by omega];omega)
  (N:=N) (s:=(n,List.replicate z 0,((n.natAbs:Nat):Int),(⟨false,[]⟩:zL))) ⟨List.replicate z 0,n.natAbs,rfl,zq2 z,by rw [zsl,lnr,Nat.zero_add,Nat.mul_comm],by rw [lnr];omega,by omega⟩ (by show(dg (((n.natAbs:Nat):Int)).toNat).length<N;rw [itn];omega)
 obtain⟨l,rfl,l1,l2,l3⟩:=h2
 rw [h1]
 simp only [obs]
 rw [zr0 N l l1 (by omega) (by omega),l2]
 rfl
theorem zi0 {l:List Int} {i:Nat} (h:l.length≤i):dv (l.drop i)=0:=by rw [List.drop_of_length_le h];rfl
theorem zacy (O c x y A B T P:Nat) (hP:O+P*(c+(x+10*A)+(y+10*B))=T):O+P*((c+x+y)%10)+P*10*((c+x+y)/10+A+B)=T:=by
 rw [←hP,Nat.mul_assoc,Nat.add_assoc,←Nat.mul_add]
 congr 2
 omega
theorem z7o (N:Nat) (hN:4000<N) {a b:List Int} (ha:dok a) (hb:dok b) (la:a.length≤1000) (lb:b.length≤1000):
 ∃r,zc4 N a b=some r∧dok r∧dv r=dv a+dv b∧r.length≤max a.length b.length+1∧(zoo a→zoo b→r=dg (dv a+dv b)):=by
 unfold zc4
 obtain⟨s',h1,h2⟩:=zlq (f:=zc4.r0 N)
  (fun s=>∃(o:List Int) (c i:Nat),s=(a,b,o,(c:Int),(i:Int))∧o.length=i∧dok o∧c≤1∧dv o+10^i*(c+dv (a.drop i)+dv (b.drop i))=dv a+dv b∧(i≤max a.length b.length∨(i=max a.length b.length+1∧c=0∧10^(max a.length b.length)≤dv o)))
  (fun s=>2*(max a.length b.length-s.2.2.2.2.toNat)+s.2.2.2.1.toNat) (fun s=>∃(o:List Int),s.2.2.1=o∧dok o∧dv o=dv a+dv b∧o.length≤max a.length b.length+1∧(o.length≤max a.length b.length∨10^(o.length-1)≤dv o)∧max a.length b.length≤o.length)
  (fun s hs=>by
   obtain⟨o,c,i,rfl,s1,s2,s3,s4,s5⟩:=hs;simp only [zc4.r0,zc4.b0];have hg:((cond (decide ((i:Int)<(a.length:Int))) (some true) (some (decide ((i:Int)<(b.length:Int))))).bind fun g1001=>(cond g1001 (some true) (some (decide ((c:Int)>0)))))=some (decide (i<a.length∨i<b.length∨0<c)):=by
    by_cases h1:i<a.length
    · rw [dct (show(i:Int)<(a.length:Int)by omega),dct (show i<a.length∨i<b.length∨0<c by omega)];rfl
    · rw [dcf (show ¬(i:Int)<(a.length:Int)by omega)]
      by_cases h2:i<b.length
      · rw [dct (show(i:Int)<(b.length:Int)by omega),dct (show i<a.length∨i<b.length∨0<c by omega)];rfl
      · rw [dcf (show ¬(i:Int)<(b.length:Int)by omega)]
        by_cases h3:0<c
        · rw [dct (show(c:Int)>0 by omega),dct (show i<a.length∨i<b.length∨0<c by omega)];rfl
        · rw [dcf (show ¬(c:Int)>0 by omega),dcf (by omega)];rfl
   rw [←Option.bind_assoc,hg];simp only [obs]
   by_cases hgo:i<a.length∨i<b.length∨0<c
   · left;rw [dct hgo,ctr];have hi:i≤max a.length b.length:=by
      rcases s5 with s5|⟨s5,s6,_⟩<;>omega
     have hroom:∀x:Int,Nat.ble ((o.length+([x]:List Int).length)*8) zr=true:=fun x=>zbe (by simp only [lnc,ln0];omega);obtain⟨x,A,hx1,hx2⟩:∃(x A:Nat),dv (a.drop i)=x+10*A∧(dv (a.drop (i+1))=A∧x<10∧(if i<a.length then a[i]?=some (x:Int)else x=0)):=by
      by_cases h:i<a.length
      · obtain⟨x,hx⟩:∃x,a[i]?=some x:=zge h;have hb:=zq3 ha hx;have hdr:=zp8 a i hx;exact⟨x.toNat,dv (a.drop (i+1)),hdr,rfl,by omega,by rw [ifp h,hx];congr 1;omega⟩
      · exact⟨0,0,by rw [zi0 (by omega)],by rw [zi0 (by omega)],by omega,by rw [ifn h]⟩
     obtain⟨y,B,hy1,hy2⟩:∃(y B:Nat),dv (b.drop i)=y+10*B∧(dv (b.drop (i+1))=B∧y<10∧(if i<b.length then b[i]?=some (y:Int)else y=0)):=by
      by_cases h:i<b.length
      · obtain⟨x,hx⟩:∃x,b[i]?=some x:=zge h;have hb:=zq3 hb hx;have hdr:=zp8 b i hx;exact⟨x.toNat,dv (b.drop (i+1)),hdr,rfl,by omega,by rw [ifp h,hx];congr 1;omega⟩
      · exact⟨0,0,by rw [zi0 (by omega)],by rw [zi0 (by omega)],by omega,by rw [ifn h]⟩
     obtain⟨hA,hx3,hx4⟩:=hx2;obtain⟨hB,hy3,hy4⟩:=hy2;rw [hx1,hy1]at s4;have alg:=zacy _ _ _ _ _ _ _ _ s4;refine⟨(a,b,o++[(((c+x+y)%10:Nat):Int)],(((c+x+y)/10:Nat):Int),((i+1:Nat):Int)),?_,⟨o++[(((c+x+y)%10:Nat):Int)],(c+x+y)/10,i+1,rfl,by rw [lna,lns,s1],zp9 s2 (by omega) (by omega),by omega,?_,?_⟩,?_⟩
     · have fin:∀v:Int,v=((c+x+y:Nat):Int)→(cond (Nat.ble ((o.length+([v.tmod 10]:List Int).length)*8) zr) (some (Stp.again (a,b,o++[v.tmod 10],w6 (v.tdiv 10),w6 ((i:Int)+1)))) none)=some (.again (a,b,o++[(((c+x+y)%10:Nat):Int)],(((c+x+y)/10:Nat):Int),((i+1:Nat):Int))):=by
        intro v hv;rw [hroom,ctr,hv,tme,tde,w6e,w6e]
        congr 1
       by_cases h1:i<a.length
       · rw [ifp h1]at hx4;rw [dct (show(i:Int)<(a.length:Int)by omega),ctr,zau,hx4,obs]
         by_cases h2:i<b.length
         · rw [ifp h2]at hy4;rw [dct (show(i:Int)<(b.length:Int)by omega),ctr,zau,hy4,obs];refine fin _ ?_;rw [w6e (n:=(c:Int)+(x:Int)),w6e];omega
         · rw [ifn h2]at hy4;rw [dcf (show ¬(i:Int)<(b.length:Int)by omega),cfa];refine fin _ ?_;rw [w6e];omega
       · rw [ifn h1]at hx4;rw [dcf (show ¬(i:Int)<(a.length:Int)by omega),cfa]
         by_cases h2:i<b.length
         · rw [ifp h2]at hy4;rw [dct (show(i:Int)<(b.length:Int)by omega),ctr,zau,hy4,obs];refine fin _ ?_;rw [w6e];omega
         · rw [ifn h2]at hy4;rw [dcf (show ¬(i:Int)<(b.length:Int)by omega),cfa];refine fin _ ?_;omega
     · rw [zoz,s1,itn,hA,hB,Nat.pow_succ];exact alg
     · by_cases him:i=max a.length b.length
       · right;have hx0:x=0:=by rw [ifn]at hx4;exact hx4
         have hy0:y=0:=by rw [ifn]at hy4;exact hy4
         have hc1:c=1:=by omega
         refine⟨by omega,by omega,?_⟩;rw [zoz,s1,itn,hx0,hy0,hc1,him];omega
       · left;omega
     · show 2*(max a.length b.length-((i+1:Nat):Int).toNat)+(((c+x+y)/10:Nat):Int).toNat<2*(max a.length b.length-(i:Int).toNat)+(c:Int).toNat;simp only [itn]
       by_cases him:i=max a.length b.length
       · have hx0:x=0:=by rw [ifn]at hx4;exact hx4
         have hy0:y=0:=by rw [ifn]at hy4;exact hy4
         omega
       · omega
   · right;rw [dcf hgo,cfa];rw [zi0 (by omega),zi0 (by omega),show c=0 by omega]at s4;refine⟨_,rfl,o,rfl,s2,by omega,?_,?_,by omega⟩
     · rcases s5 with s5|⟨s5,_,_⟩<;>omega
     · rcases s5 with s5|⟨s5,_,s7⟩
       · left;omega
       · right;rw [s1,s5,Nat.add_sub_cancel];exact s7)
  (N:=N) (s:=(a,b,[],0,0)) ⟨[],0,0,rfl,rfl,fun d hd=>(List.not_mem_nil hd).elim,by omega,by simp [dv],.inl (by omega)⟩ (by show 2*(max a.length b.length-(0:Int).toNat)+(0:Int).toNat<N;simp only [Int.toNat_zero];omega)
 obtain⟨o,ho,o1,o2,o3,o4,o5⟩:=h2
 rw [h1]
 simp only [obs,ho]
 refine⟨o,rfl,o1,o2,o3,fun hca hcb=> ?_⟩
 rw [←o2]
 refine(z1v o1 (z9m o1 fun hne=> ?_)).symm
 rcases o4 with o4|o4
 · have hol:o.length≠0:=fun h=>hne (List.length_eq_zero_iff.1 h);have hm:o.length=a.length∨o.length=b.length:=by omega
   rcases hm with hm|hm
   · have:=z74 ha hca (fun h=>by rw [h]at hm;exact hol hm);rw [hm,o2];omega
   · have:=z74 hb hcb (fun h=>by rw [h]at hm;exact hol hm);rw [hm,o2];omega
 · exact o4
theorem zzu (N:Nat) (hN:4000<N) (a b:Nat) (ha:a<10^900) (hb:b<10^900):zc4 N (dg a) (dg b)=some (dg (a+b)):=by
 obtain⟨r,h1,_,_,_,h2⟩:=z7o N hN (zkp a) (zkp b) (Nat.le_trans ((zhy a 900).2 ha) (by decide)) (Nat.le_trans ((zhy b 900).2 hb) (by decide))
 rw [h1,h2 (z75 a) (z75 b),zk8,zk8]
theorem zzv (N:Nat) (hN:4000<N) (a b:Nat) (ha:a<10^900) (hb:b<10^900):zc7 N (dg a) (dg b)=some (zxi a b):=by
 have la:(dg a).length≤900:=(zhy a 900).2 ha
 have lb:(dg b).length≤900:=(zhy b 900).2 hb
 unfold zc7
 by_cases hl:(dg a).length=(dg b).length
 · rw [zdq,dcf (by omega),cfa];have key:=zaba (f:=zc7.r0 N) (fun s=>∃i:Nat,s=(dg a,dg b,(i:Int)-1)∧i≤(dg a).length∧(dg a).drop i=(dg b).drop i) (fun s=>(s.2.2+1).toNat) (fun r=>r=zxi a b) (fun s=>dg a=dg b)
    (fun s hs=>by
     obtain⟨i,rfl,s1,s2⟩:=hs;simp only [zc7.r0,zc7.b0];cases i with
     | zero=>
      right;left;refine⟨_,rfl,?_⟩;rw [dr0,dr0]at s2;exact s2
     | succ i=>
      obtain⟨x,hx⟩:∃x,(dg a)[i]?=some x:=zge (by omega);obtain⟨y,hy⟩:∃y,(dg b)[i]?=some y:=zge (by omega);rw [dct (show((i+1:Nat):Int)-1≥0 by omega),ctr,show((i+1:Nat):Int)-1=(i:Int)by omega,zau,zau,hx,hy];simp only [obs,zh4];obtain⟨hxl,hxe⟩:=gei hx;obtain⟨hyl,hye⟩:=gei hy
      by_cases hxy:x=y
      · left;rw [zdq,dcf (by omega),cfa,w6e];refine⟨_,rfl,⟨i,rfl,by omega,?_⟩,?_⟩
        · rw [List.drop_eq_getElem_cons hxl,List.drop_eq_getElem_cons hyl,hxe,hye,hxy,s2]
        · show((i:Int)-1+1).toNat<((i:Int)+1).toNat;omega
      · right;right;rw [zdq,dct hxy,ctr];refine⟨_,rfl,?_⟩;unfold zxi
        by_cases hlt:x<y
        · have:=zabp (zkp a) (zkp b) i hxl hyl s2 (by rw [hxe,hye];exact hlt);rw [zk8,zk8]at this;rw [dcf (by omega),ifp this];decide
        · have:=zabp (zkp b) (zkp a) i hyl hxl s2.symm (by rw [hxe,hye];omega);rw [zk8,zk8]at this;rw [dct (by omega),ifn,ifp this];decide)
    (N:=N) (s:=(dg a,dg b,((dg a).length:Int)-1)) ⟨(dg a).length,rfl,Nat.le_refl _,by rw [List.drop_of_length_le (Nat.le_refl _),List.drop_of_length_le (by omega)]⟩ (by show(((dg a).length:Int)-1+1).toNat<N;omega)
   rw [w6e];rcases key with⟨s',h1,h2⟩|⟨r,h1,h2⟩
   · have e:=congrArg dv h2;rw [zk8,zk8]at e;rw [h1,e];unfold zxi;rw [ifn,ifn];rfl
   · rw [h1,h2];rfl
 · rw [zdq,dct (by omega),ctr,zh4];simp only [obs];unfold zxi
   by_cases hlt:(dg a).length<(dg b).length
   · rw [dcf (by omega),ifp (z1u hlt)];rfl
   · have h2:=z1u (a:=b) (b:=a) (by omega);rw [dct (by omega),ifn,ifp h2];rfl
theorem zzw (N:Nat) (hN:4000<N) (a b:Nat) (ha:a<10^900) (hba:b≤a):zdl N (dg a) (dg b)=some (dg (a-b)):=by
 have la:(dg a).length≤900:=(zhy a 900).2 ha
 have lab:(dg b).length≤(dg a).length:=(zhy b _).2 (Nat.lt_of_le_of_lt hba ((zhy a _).1 (Nat.le_refl _)))
 have hA:=zkp a
 have hB:=zkp b
 have vA:=zk8 a
 have vB:=zk8 b
 unfold zdl
 generalize dg a=A at*
 generalize dg b=B at*
 obtain⟨s',h1,h2⟩:=zlq (f:=zdl.r0 N)
  (fun s=>∃(o:List Int) (c i:Nat),s=(A,B,o,(c:Int),(i:Int))∧o.length=i∧i≤A.length∧dok o∧c≤1∧dv o+dv (B.take i)=dv (A.take i)+10^i*c)
  (fun s=>A.length-s.2.2.2.2.toNat) (fun s=>∃c:Nat,dok s.2.2.1∧s.2.2.1.length=A.length∧dv s.2.2.1+b=a+10^A.length*c)
  (fun s hs=>by
   obtain⟨o,c,i,rfl,s1,s2,s3,s4,s5⟩:=hs;simp only [zdl.r0,zdl.b0]
   by_cases hi:i<A.length
   · left;obtain⟨x,hx⟩:∃x,A[i]?=some x:=zge hi;obtain⟨x0,x1⟩:=zq3 hA hx;have tA:=zut A i hx;have hroom:∀x:Int,Nat.ble ((o.length+([x]:List Int).length)*8) zr=true:=fun x=>zbe (by simp only [lnc,ln0];omega);rw [dct (show(i:Int)<(A.length:Int)by omega),ctr,zau,hx];simp only [obs,zh4];obtain⟨y,hy1,hy2,hy3⟩:∃y:Int,(0≤y∧y<10)∧dv (B.take (i+1))=dv (B.take i)+10^i*y.toNat∧(if i<B.length then B[i]?=some y else y=0):=by
      by_cases h:i<B.length
      · obtain⟨y,hy⟩:∃y,B[i]?=some y:=zge h;exact⟨y,zq3 hB hy,zut B i hy,by rw [ifp h];exact hy⟩
      · exact⟨0,by omega,by rw [List.take_of_length_le (by omega),List.take_of_length_le (by omega)];simp,by rw [ifn h]⟩
     have fin:∀v:Int,v=x-(c:Int)-y→(cond (Nat.ble ((o.length+([w6 (v+w6 (10*cond (decide (v<0)) 1 0))]:List Int).length)*8) zr) (some (Stp.again (A,B,o++[w6 (v+w6 (10*cond (decide (v<0)) 1 0))],cond (decide (v<0)) (1:Int) 0,w6 ((i:Int)+1)))) none)=some (Stp.again (A,B,o++[if v<0 then v+10 else v],((if v<0 then 1 else 0:Nat):Int),((i+1:Nat):Int))):=by
      intro v hv;rw [hroom,ctr,w6e (n:=(i:Int)+1)]
      by_cases hneg:v<0
      · rw [dct hneg,ifp hneg,ifp hneg,ctr,w6e (n:=10*1) (by decide) (by decide),w6e];rfl
      · rw [dcf hneg,ifn hneg,ifn hneg,cfa,w6e (n:=10*0) (by decide) (by decide),w6e,Int.mul_zero,Int.add_zero];rfl
     refine⟨(A,B,o++[if x-(c:Int)-y<0 then x-(c:Int)-y+10 else x-(c:Int)-y],((if x-(c:Int)-y<0 then 1 else 0:Nat):Int),((i+1:Nat):Int)),?_,⟨_,_,_,rfl,by rw [lna,lns,s1],by omega,zp9 s3 (by split<;>omega) (by split<;>omega),zad2 _,?_⟩,?_⟩
     · by_cases h:i<B.length
       · rw [ifp h]at hy3;rw [dct (show(i:Int)<(B.length:Int)by omega),ctr,zau,hy3,obs,w6e (n:=x-(c:Int)),w6e (n:=x-(c:Int)-y)];exact fin _ rfl
       · rw [ifn h]at hy3;rw [dcf (show ¬(i:Int)<(B.length:Int)by omega),cfa,w6e (n:=x-(c:Int))];have:=fin (x-(c:Int)) (by omega);rw [this,hy3,Int.sub_zero]
     · rw [zoz,hy2,tA,s1,Nat.pow_succ];generalize 10^i=P at*;have e:∀u:Nat,P*10*u=P*(10*u):=fun u=>Nat.mul_assoc _ _ _;rw [e];have lin:(if x-(c:Int)-y<0 then x-(c:Int)-y+10 else x-(c:Int)-y).toNat+y.toNat+c=x.toNat+10*(if x-(c:Int)-y<0 then 1 else 0):=by split<;>omega
       have:=congrArg (P*·) lin;simp only [Nat.mul_add]at this;generalize P*(if x-(c:Int)-y<0 then x-(c:Int)-y+10 else x-(c:Int)-y).toNat=U at*;generalize P*(10*(if x-(c:Int)-y<0 then 1 else 0))=V at*;omega
     · show A.length-((i+1:Nat):Int).toNat<A.length-(i:Int).toNat;simp only [itn];omega
   · right;rw [dcf (show ¬(i:Int)<(A.length:Int)by omega),cfa];rw [List.take_of_length_le (by omega),List.take_of_length_le (by omega),vA,vB]at s5;exact⟨_,rfl,c,s3,(show o.length=A.length by omega),by rw [show A.length=i by omega];exact s5⟩)
  (N:=N) (s:=(A,B,[],0,0)) ⟨[],0,0,rfl,rfl,by omega,fun d hd=>(List.not_mem_nil hd).elim,by omega,by simp [dv]⟩ (by show A.length-(0:Int).toNat<N;omega)
 obtain⟨c,o1,o2,o3⟩:=h2
 have hlt:=z1t o1
 rw [o2]at hlt
 have hc:c=0:=by
  refine cbc fun h=> ?_;have:=Nat.mul_le_mul_left (10^A.length) (show 1≤c by omega);rw [Nat.mul_one]at this;clear ha;generalize 10^A.length*c=M at*;generalize 10^A.length=P at*;omega
 rw [h1]
 simp only [obs]
 rw [zr0 N _ o1 (by omega) (by omega),show dv s'.2.2.1=a-b by rw [hc]at o3;omega]
 rfl
def sgn (s:Bool) (m:Nat):Int:=cond s (-(m:Int)) m
theorem zr3 (m:Nat):decide (((dg m).length:Int)>0)=decide (m≠0):=by
 simp only [decide_eq_decide]
 constructor
 · intro h h2;rw [h2,zlk]at h;simp at h
 · intro h;rw [zpl h,lnc];omega
theorem z5i (m:Nat):(((dg m).length:Int)==0)=decide (m=0):=by
 rw [zbc]
 simp only [decide_eq_decide]
 constructor
 · intro h;refine cbc fun h2=> ?_;rw [zpl h2,lnc]at h;omega
 · intro h;rw [h,zlk];rfl
theorem z4o (N:Nat) (hN:4000<N) (s u:Bool) (p q:Nat) (hp:p<10^800) (hq:q<10^800):∃v m,zkj N ⟨s,dg p⟩ ⟨u,dg q⟩=some ⟨v,dg m⟩∧sgn v m=sgn s p+sgn u q∧m≤p+q:=by
 have h89:(10:Nat)^800<10^900:=by decide
 unfold zkj
 rw [zzu N hN p q (by omega) (by omega),zzv N hN p q (by omega) (by omega)]
 simp only [obs]
 by_cases hsu:s=u
 · subst hsu;simp only [bst,ctr];exact⟨_,_,rfl,by unfold sgn;cases s<;>simp<;>omega,by omega⟩
 · rw [show(s==u)=false from beq_eq_false_iff_ne.2 hsu,cfa];unfold zxi
   by_cases h:p<q
   · rw [ifp h,zzw N hN q p (by omega) (Nat.le_of_lt h)];simp only [show decide ((-1:Int)<0)=true from rfl,ctr,obs,zr3];have hz:decide (q-p≠0)=true:=dct (by omega);rw [hz];refine⟨u,q-p,by cases u<;>rfl,?_,by omega⟩;unfold sgn;cases s<;>cases u<;>simp_all<;>omega
   · have hf:∀k:Int,decide ((if q<p then(1:Int)else 0)<0)=false:=fun _=>by split<;>rfl
     rw [ifn h,hf 0,zzw N hN p q (by omega) (by omega)];simp only [cfa,obs,zr3];refine⟨s&&decide (p-q≠0),p-q,by cases s<;>rfl,?_,by omega⟩;unfold sgn
     by_cases hz:p-q=0
     · rw [dcf (by omega)];cases s<;>cases u<;>simp_all<;>omega
     · rw [dct hz];cases s<;>cases u<;>simp_all<;>omega
theorem zy2 (N:Nat) (hN:1000<N) {a b:Number} (ha:zew a) (hb:zew b):zhr N a b=some (⟨decide (a.N<0),dg (zbj a (zag a b)).natAbs⟩,⟨decide (b.N<0),dg (zbj b (zag a b)).natAbs⟩,zag a b):=by
 obtain⟨s1,s2,s3,s4⟩:=zvc ha hb
 obtain⟨⟨a1,a2⟩,a3,a4⟩:=ha
 obtain⟨⟨b1,b2⟩,b3,b4⟩:=hb
 unfold zhr
 rw [show(if b.Scale>a.Scale then b.Scale else a.Scale)=zag a b from rfl,w6e,w6e]
 have e1:=zw7 N hN a.N ⟨by omega,by omega⟩ (zag a b-a.Scale).toNat (by omega)
 have e2:=zw7 N hN b.N ⟨by omega,by omega⟩ (zag a b-b.Scale).toNat (by omega)
 rw [Int.toNat_of_nonneg (by omega)]at e1 e2
 rw [e1,obs,e2,obs,zlw,zlw]
theorem zrm (x:Number) (s:Int):sgn (decide (x.N<0)) (zbj x s).natAbs=zbj x s:=by
 have:=z8r x s
 unfold sgn
 by_cases h:x.N<0
 · rw [dct h,ctr];have:=this.2 h;omega
 · rw [dcf h,cfa];have:¬zbj x s<0:=fun h2=>h (this.1 h2);omega
theorem z7k (s:Bool) (m:Nat):sgn (!s) m= -sgn s m:=by unfold sgn;cases s<;>simp
theorem p30 {n:Nat} (h:n≤10^30):n<10^800:=Nat.lt_of_le_of_lt h (by decide)
theorem zzy (N:Nat) (hN:4000<N) {a b:Number} (ha:zew a) (hb:zew b):zgx N a b=some (z43 (zbj a (zag a b)) (zbj b (zag a b))):=by
 obtain⟨s1,s2,s3,s4⟩:=zvc ha hb
 unfold zgx
 try simp only [eN]
 rw [zy2 N (by omega) ha hb]
 simp only [obs]
 obtain⟨v,m,h1,h2,_⟩:=z4o N hN (decide (a.N<0)) (!decide (b.N<0)) _ _ (p30 (zsx ha s4)) (p30 (zsx hb s4))
 rw [h1]
 simp only [obs,z5i,zh4]
 rw [z7k,zrm,zrm]at h2
 generalize zbj a (zag a b)=A at*
 generalize zbj b (zag a b)=B at*
 unfold sgn at h2
 unfold z43
 by_cases hz:m=0
 · rw [dct hz,ctr];have:A=B:=by cases v<;>simp_all<;>omega
   rw [ifn,ifn]
 · rw [dcf hz,cfa];cases v with
   | true=>
    rw [ctr]at h2;rw [ifp];decide
   | false=>
    rw [cfa]at h2;rw [ifn,ifp];decide
theorem zae3 (O c x y A P T:Nat) (hP:O+P*(c+(x+10*A)*y)=T):O+P*((c+x*y)%10)+P*10*((c+x*y)/10+A*y)=T:=by
 rw [←hP,Nat.mul_assoc,Nat.add_assoc,←Nat.mul_add,Nat.add_mul,Nat.mul_assoc 10 A y]
 congr 2
 generalize x*y=z at*
 generalize A*y=w at*
 omega
theorem zagj (N:Nat) (hN:4000<N) (p:Nat) (hp:p<10^100) (o:List Int) (L3 L4:zL) (i:Nat) (hi:i≤100) (y:Nat) (hy:y<10) (hy2:L3.zZ[i]?=some (y:Int)) (s:Bool):
 ∃row c k,zh (zbd.r2 N) N (o,(i:Int),List.replicate i (0:Int),0,0,(⟨s,dg p⟩:zL),L3,L4)=some (o,(i:Int),row,c,k,⟨s,dg p⟩,L3,L4)∧dok row∧dv row=10^i*(p*y)∧row.length≤300:=by
 have lp:(dg p).length≤100:=(zhy p 100).2 hp
 have hA:=zkp p
 have vA:=zk8 p
 generalize dg p=A at*
 obtain⟨s',h1,h2⟩:=zlq (f:=zbd.r2 N)
  (fun t=>∃(row:List Int) (c k:Nat),t=(o,(i:Int),row,(c:Int),(k:Int),(⟨s,A⟩:zL),L3,L4)∧row.length=i+k∧k≤A.length+1∧dok row∧c≤8∧dv row+10^(i+k)*(c+dv (A.drop k)*y)=10^i*(p*y)∧(A.length<k→c=0))
  (fun t=>2*(A.length-t.2.2.2.2.1.toNat)+(if t.2.2.2.1=0 then 0 else 1)) (fun t=>∃(row:List Int) (c k:Int),t=(o,(i:Int),row,c,k,(⟨s,A⟩:zL),L3,L4)∧dok row∧dv row=10^i*(p*y)∧row.length≤300)
  (fun t ht=>by
   obtain⟨row,c,k,rfl,s1,s2,s3,s4,s5,s6⟩:=ht;have hroom:∀x:Int,Nat.ble ((row.length+([x]:List Int).length)*8) zr=true:=fun x=>zbe (by simp only [lnc,ln0];omega);simp only [zbd.r2,zbd.b2]
   by_cases hk:k<A.length
   · left;obtain⟨x,hx⟩:∃x,A[k]?=some x:=zge hk;obtain⟨x0,x1⟩:=zq3 hA hx;obtain⟨u,rfl⟩:∃u:Nat,x=(u:Int):=⟨x.toNat,by omega⟩;have hd:=zp8 A k hx;rw [itn]at hd;have hmul:u*y≤9*9:=Nat.mul_le_mul (by omega) (by omega);rw [dct (show(k:Int)<(A.length:Int)by omega)];simp only [ctr,obs];rw [zau,hx,zau,hy2];simp only [obs];have hv:w6 ((c:Int)+w6 ((u:Int)*(y:Int)))=((c+u*y:Nat):Int):=by
      rw [←Int.natCast_mul,w6e (n:=((u*y:Nat):Int)),w6e];omega
     rw [hv,hroom,ctr,tme,tde,w6e (n:=((c+u*y:Nat):Int)/10),w6e (n:=(k:Int)+1)];rw [hd]at s5;have alg:=zae3 _ _ _ _ _ _ _ s5;refine⟨_,rfl,⟨row++[(((c+u*y)%10:Nat):Int)],(c+u*y)/10,k+1,?_,?_,by omega,zp9 s3 (by omega) (by omega),by omega,?_,fun h=>by omega⟩,?_⟩
     · generalize u*y=z;rw [show((c+z:Nat):Int)%10=(((c+z)%10:Nat):Int)by omega,show((c+z:Nat):Int)/10=(((c+z)/10:Nat):Int)by omega];rfl
     · rw [lna,lns,s1];omega
     · rw [zoz,s1,itn,show i+(k+1)=i+k+1 by omega,Nat.pow_succ];exact alg
     · show 2*(A.length-((k:Int)+1).toNat)+(if((c+u*y:Nat):Int)/10=0 then 0 else 1)<2*(A.length-(k:Int).toNat)+(if(c:Int)=0 then 0 else 1);have:=zad2 (((c+u*y:Nat):Int)/10=0);split<;>split<;>omega
   · rw [dcf (show ¬(k:Int)<(A.length:Int)by omega)];simp only [cfa,obs];rw [zi0 (show A.length≤k by omega)]at s5
     by_cases hc:c=0
     · right;rw [dcf (show ¬(c:Int)>0 by omega),cfa];refine⟨_,rfl,row,_,_,rfl,s3,?_,by omega⟩;rw [hc]at s5;simpa using s5
     · left;have hkA:k=A.length:=by
        refine cbc fun h=>hc (s6 (by omega))
       rw [dct (show(c:Int)>0 by omega),ctr,hroom,ctr,tme,tde,w6e (n:=(c:Int)/10),w6e (n:=(k:Int)+1)];refine⟨_,rfl,⟨row++[(c:Int)],0,k+1,?_,?_,by omega,zp9 s3 (by omega) (by omega),by omega,?_,fun _=>rfl⟩,?_⟩
       · rw [show(c:Int)%10=(c:Int)by omega,show(c:Int)/10=((0:Nat):Int)by omega];rfl
       · rw [lna,lns,s1];omega
       · rw [zoz,s1,itn,zi0 (show A.length≤k+1 by omega)];simp only [Nat.zero_mul,Nat.add_zero,Nat.mul_zero]at s5⊢;exact s5
       · show 2*(A.length-((k:Int)+1).toNat)+(if(c:Int)/10=0 then 0 else 1)<2*(A.length-(k:Int).toNat)+(if(c:Int)=0 then 0 else 1);rw [ifp,ifn];omega)
  (N:=N) (s:=(o,(i:Int),List.replicate i (0:Int),0,0,(⟨s,A⟩:zL),L3,L4)) ⟨List.replicate i 0,0,0,rfl,by rw [lnr];rfl,by omega,zq2 i,by omega,by rw [zsl,dr0,vA];simp,fun h=>rfl⟩ (by show 2*(A.length-(0:Int).toNat)+(if(0:Int)=0 then 0 else 1)<N;rw [ifp rfl];omega)
 obtain⟨row,c,k,rfl,r1,r2,r3⟩:=h2
 exact⟨row,c,k,h1,r1,r2,r3⟩
theorem z8x (N:Nat) (hN:4000<N) (s u:Bool) (p q:Nat) (hp:p<10^90) (hq:q<10^90):zbd N ⟨s,dg p⟩ ⟨u,dg q⟩=some ⟨(s !=u)&&decide (p*q≠0),dg (p*q)⟩:=by
 have lq:(dg q).length≤90:=(zhy q 90).2 hq
 have hB:=zkp q
 have vB:=zk8 q
 unfold zbd
 obtain⟨s',h1,h2⟩:=zlq (f:=zbd.r0 N)
  (fun t=>∃(o:List Int) (i:Nat),t=(o,(i:Int),(⟨s,dg p⟩:zL),(⟨u,dg q⟩:zL),(⟨false,[]⟩:zL))∧i≤(dg q).length∧dok o∧o.length≤300+i∧dv o=p*dv ((dg q).take i))
  (fun t=>(dg q).length-t.2.1.toNat) (fun t=>∃o:List Int,(∃i:Int,t=(o,i,(⟨s,dg p⟩:zL),(⟨u,dg q⟩:zL),(⟨false,[]⟩:zL)))∧dok o∧o.length≤400∧dv o=p*q)
  (fun t ht=>by
   obtain⟨o,i,rfl,s1,s2,s3,s4⟩:=ht;simp only [zbd.r0,zbd.b0]
   by_cases hi:i<(dg q).length
   · left;obtain⟨y,hy⟩:∃y,(dg q)[i]?=some y:=zge hi;obtain⟨y0,y1⟩:=zq3 hB hy;obtain⟨w,rfl⟩:∃w:Nat,y=(w:Int):=⟨y.toNat,by omega⟩;rw [dct (show(i:Int)<((dg q).length:Int)by omega),ctr,ifp,ifp,zbe (by omega),ctr,itn];obtain⟨row,c,k,r1,r2,r3,r4⟩:=zagj N hN p (Nat.lt_of_lt_of_le hp (zdj (by decide))) o (⟨u,dg q⟩:zL) (⟨false,[]⟩:zL) i (by omega) w (by omega) hy s;rw [r1];simp only [obs];obtain⟨r,g1,g2,g3,g4,_⟩:=z7o N hN s2 r2 (by omega) (by omega);rw [g1];simp only [obs];rw [w6e];refine⟨_,rfl,⟨r,i+1,rfl,by omega,g2,?_,?_⟩,?_⟩
     · omega
     · rw [g3,s4,r3,zut _ i hy,itn,Nat.mul_add,Nat.mul_left_comm]
     · show(dg q).length-((i:Int)+1).toNat<(dg q).length-(i:Int).toNat;omega
   · right;rw [dcf (show ¬(i:Int)<((dg q).length:Int)by omega),cfa];refine⟨_,rfl,o,⟨_,rfl⟩,s2,by omega,?_⟩;rw [s4,List.take_of_length_le (by omega),vB])
  (N:=N) (s:=([],0,(⟨s,dg p⟩:zL),(⟨u,dg q⟩:zL),(⟨false,[]⟩:zL))) ⟨[],0,rfl,by omega,fun d hd=>(List.not_mem_nil hd).elim,by simp,by simp [dv]⟩ (by show(dg q).length-(0:Int).toNat<N;omega)
 obtain⟨o,⟨i,rfl⟩,o1,o2,o3⟩:=h2
 rw [h1]
 simp only [obs]
 rw [zr0 N o o1 (by omega) (by omega),o3]
 simp only [obs,zr3]
 cases s<;>cases u<;>rfl
theorem zacq (N:Nat) (hN:4000<N) (A:List Int) (b r0:Nat) (hb:0<b) (hb2:b<10^500) (Q:List Int) (hQ:dok Q) (i:Nat) (hi:i<Q.length) (hz:Q[i]?=some 0) (hr:r0<10*b):
 zh (za4.r2 N) N (A,dg b,Q,dg r0,(i:Int))=some (A,dg b,Q.set i ((r0/b:Nat):Int),dg (r0%b),(i:Int)):=by
 have h56:(10:Nat)^500*10≤10^900:=by decide
 obtain⟨s',h1,h2⟩:=zlq (f:=za4.r2 N)
  (fun t=>∃(r c:Nat),t=(A,dg b,Q.set i (c:Int),dg r,(i:Int))∧r+c*b=r0)
  (fun t=>10-(zke t.2.2.1 i).toNat) (fun t=>t=(A,dg b,Q.set i ((r0/b:Nat):Int),dg (r0%b),(i:Int)))
  (fun t ht=>by
   obtain⟨r,c,rfl,s1⟩:=ht;have hc:c<10:=by
    refine cbc fun h=> ?_;have:=Nat.mul_le_mul_right b (show 10≤c by omega);omega
   have hl:(Q.set i (c:Int)).length=Q.length:=List.length_set;have hx:(Q.set i (c:Int))[i]?=some (c:Int):=by rw [List.getElem?_set,ifp rfl,ifp hi]
   have hr0:r≤r0:=by omega
   simp only [za4.r2,za4.b2];rw [zzv N hN r b (by omega) (by omega),obs,z7r]
   by_cases h:b≤r
   · left;rw [dct h,ctr,zzw N hN r b (by omega) h,obs,hl,ifp,ifp,itn,hx];simp only [obs];rw [ifp,ifp,w6e,List.set_set];refine⟨_,rfl,⟨r-b,c+1,rfl,?_⟩,?_⟩
     · rw [Nat.add_mul,Nat.one_mul];omega
     · have g:∀v:Int,zke (Q.set i v) i=v:=by
        intro v;clear hx hl hz
        induction Q generalizing i with
        | nil=>simp at hi
        | cons q Q ih=>
         cases i with
         | zero=>rfl
         | succ i=>
          rw [List.set_cons_succ];show(if i+1=0 then q else zke (Q.set i v) (i+1-1))=v;rw [ifn,Nat.add_sub_cancel];exact ih (fun d hd=>hQ d (List.mem_cons_of_mem _ hd)) i (by simpa using hi)
       show 10-(zke (Q.set i ((c:Int)+1)) i).toNat<10-(zke (Q.set i (c:Int)) i).toNat;rw [g,g];omega
   · right;rw [dcf h,cfa];refine⟨_,rfl,?_⟩;have e1:r0/b=c:=by rw [←s1,Nat.add_mul_div_right _ _ hb,Nat.div_eq_of_lt (by omega),Nat.zero_add]
     have e2:r0%b=r:=by rw [←s1,Nat.add_mul_mod_self_right,mel (by omega)]
     rw [e1,e2])
  (N:=N) (s:=(A,dg b,Q,dg r0,(i:Int))) ⟨r0,0,by
   have:Q.set i ((0:Nat):Int)=Q:=by
    refine List.ext_getElem? fun k=> ?_;rw [List.getElem?_set];split
    · rename_i hk;rw [←hk,hz];rfl
    · rfl
   rw [this],by omega⟩ (by show 10-(zke Q i).toNat<N;omega)
 rw [h1,h2]
theorem z09 (N:Nat) (hN:4000<N) (a b:Nat) (ha:a<10^400) (hb:0<b) (hb2:b<10^400):za4 N (dg a) (dg b)=some (dg (a/b),dg (a%b)):=by
 have la:(dg a).length≤400:=(zhy a 400).2 ha
 have h45:(10:Nat)^400<10^500:=by decide
 have hA:=zkp a
 have vA:=zk8 a
 unfold za4
 generalize dg a=A at*
 rw [ifp,ifp,zbe (by omega),ctr,itn,w6e]
 obtain⟨s',h1,h2⟩:=zlq (f:=za4.r0 N)
  (fun t=>∃(Q:List Int) (i:Nat),t=(A,dg b,Q,dg (dv (A.drop i)%b),(i:Int)-1)∧i≤A.length∧Q.length=A.length∧dok Q∧dv (Q.drop i)=dv (A.drop i)/b∧(∀k,k<i→Q[k]?=some 0))
  (fun t=>(t.2.2.2.2+1).toNat) (fun t=>dok t.2.2.1∧t.2.2.1.length=A.length∧dv t.2.2.1=a/b∧t.2.2.2.1=dg (a%b))
  (fun t ht=>by
   obtain⟨Q,i,rfl,s1,s2,s3,s4,s5⟩:=ht;simp only [za4.r0,za4.b0];cases i with
   | zero=>
    right;rw [dr0,dr0,vA]at s4;refine⟨_,rfl,s3,s2,s4,?_⟩;rw [dr0,vA]
   | succ i=>
    left;obtain⟨x,hx⟩:∃x,A[i]?=some x:=zge (by omega);obtain⟨x0,x1⟩:=zq3 hA hx;obtain⟨u,rfl⟩:∃u:Nat,x=(u:Int):=⟨x.toNat,by omega⟩;have hd:=zp8 A i hx;rw [itn]at hd;have hrb:dv (A.drop (i+1))%b<b:=Nat.mod_lt _ hb;have hdm:=Nat.div_add_mod (dv (A.drop (i+1))) b;rw [show((i+1:Nat):Int)-1=(i:Int)by omega,dct (show(i:Int)≥0 by omega),ctr,zau,hx];simp only [obs];generalize dv (A.drop (i+1))=p at*;have lr:(dg (p%b)).length≤500:=(zhy _ 500).2 (by omega);rw [zbe (by simp only [lnc,ln0];omega),ctr];have hrest:dok ([(u:Int)]++dg (p%b)):=zv7 (fun d hd=>by
     rcases List.mem_cons.1 hd with rfl|hd
     · omega
     · cases hd) (zkp _)
    rw [zr0 N _ hrest (by rw [lna,lns];omega) (by rw [lna,lns];omega)];have hv:dv ([(u:Int)]++dg (p%b))=u+10*(p%b):=by
     show(u:Int).toNat+10*dv (dg (p%b))=_;rw [zk8,itn]
    rw [hv];simp only [obs];rw [zacq N hN A b (u+10*(p%b)) hb (by omega) Q s3 i (by omega) (s5 i (by omega)) (by omega)];simp only [obs];rw [w6e];have eq1:u+10*p=b*(10*(p/b))+(u+10*(p%b)):=by
     rw [Nat.mul_left_comm];omega
    have ed:(u+10*p)/b=10*(p/b)+(u+10*(p%b))/b:=by rw [eq1,Nat.mul_add_div hb]
    have em:(u+10*p)%b=(u+10*(p%b))%b:=by rw [eq1,Nat.mul_add_mod]
    have hdig:(u+10*(p%b))/b<10:=Nat.div_lt_of_lt_mul (by rw [Nat.mul_comm];omega);generalize (u+10*(p%b))/b=G at*;refine⟨_,rfl,⟨Q.set i (G:Int),i,?_,by omega,by rw [List.length_set];exact s2,?_,?_,?_⟩,?_⟩
    · rw [hd,em]
    · intro d hd;rcases List.mem_or_eq_of_mem_set hd with h|h
      · exact s3 d h
      · rw [h];omega
    · have hxs:(Q.set i (G:Int))[i]?=some (G:Int):=by rw [List.getElem?_set,ifp rfl,ifp]
      rw [zp8 _ i hxs,itn,List.drop_set_of_lt (by omega),s4,hd,ed];omega
    · intro k hk;rw [List.getElem?_set,ifn];exact s5 k (by omega)
    · show((i:Int)-1+1).toNat<((i:Int)+1).toNat;omega)
  (N:=N) (s:=(A,dg b,List.replicate A.length 0,[],(A.length:Int)-1)) ⟨List.replicate A.length 0,A.length,by rw [zi0 (Nat.le_refl _),Nat.zero_mod,zlk],by omega,lnr,zq2 _,by rw [zi0 (Nat.le_refl _),Nat.zero_div,zi0 (by rw [lnr];omega)],fun k hk=>by rw [List.getElem?_replicate,ifp hk]⟩ (by show((A.length:Int)-1+1).toNat<N;omega)
 obtain⟨o1,o2,o3,o4⟩:=h2
 rw [h1]
 simp only [obs]
 rw [zr0 N _ o1 (by omega) (by omega),o3,o4]
 rfl
theorem zw5 (k:Nat) (hk:k≤100):zgw (k:Int)=some (dg (10^k)):=by
 unfold zgw
 rw [ifp,ifp,zbe (by omega),ctr,itn,lnr,zbe (by simp only [lnc,ln0];omega),ctr]
 congr 1
 have h1:dok (List.replicate k (0:Int)++[1]):=zp9 (zq2 k) (by decide) (by decide)
 have h2:dv (List.replicate k (0:Int)++[1])=10^k:=by rw [zoz,zsl,lnr];simp
 rw [←h2]
 refine(z1v h1 ?_).symm
 unfold zoo
 rw [List.getLast?_append]
 simp
def zz5 (p q:Nat) (half:Bool):Nat:=p/q+cond (half&&decide (q≤p%q+p%q)) 1 0
theorem zacm (N:Nat) (hN:4000<N) (s:Bool) (p q:Nat) (hp:p≤10^100) (hq:0<q) (hq2:q≤10^100) (k:Nat) (hk:k≤15) (half:Bool):
 ∃v,zkw N ⟨⟨s,dg p⟩,dg q⟩ (k:Int) half=some ⟨v,dg (zz5 (p*10^k) q half)⟩∧(zz5 (p*10^k) q half≠0→v=s):=by
 have hs:p*10^k≤10^100*10^15:=Nat.mul_le_mul hp (zdj hk)
 have h115:(10:Nat)^100*10^15<10^400:=by decide
 have h4:(10:Nat)^400<10^900:=by decide
 have h14:(10:Nat)^100<10^400:=by decide
 have hr:=Nat.mod_lt (p*10^k) hq
 have hdl:=Nat.div_le_self (p*10^k) q
 have lp:(dg p).length≤101:=(zhy p 101).2 (by have:(10:Nat)^100<10^101:=(by decide);omega)
 unfold zkw
 rw [ifp,ifp,zbe (by omega),ctr,itn,lnr,zbe (by show(k+(dg p).length)*8≤1000000;omega),ctr]
 have hd:dok (List.replicate k (0:Int)++dg p):=zv7 (zq2 k) (zkp p)
 have hv:dv (List.replicate k (0:Int)++dg p)=p*10^k:=by rw [zte,zsl,zk8,lnr,Nat.zero_add,Nat.mul_comm]
 show∃v,((zcb N (List.replicate k (0:Int)++dg p)).bind _)=_∧_
 rw [zr0 N _ hd (by rw [lna,lnr];omega) (by rw [lna,lnr];omega),hv]
 simp only [obs]
 rw [z09 N hN _ q (by omega) hq (by omega)]
 simp only [obs]
 rw [zzu N hN _ _ (by omega) (by omega)]
 simp only [obs]
 rw [zzv N hN _ q (by omega) (by omega)]
 simp only [obs,z7r]
 have kk:(cond half (some (decide (q≤p*10^k%q+p*10^k%q))) (some false))=some (half&&decide (q≤p*10^k%q+p*10^k%q)):=by cases half<;>rfl
 rw [kk,obs]
 unfold zz5
 cases(half&&decide (q≤p*10^k%q+p*10^k%q))with
 | true=>
  rw [ctr,ctr,show([1]:List Int)=dg 1 by rw [zpl (by decide),show 1/10=0 from rfl,zlk];rfl,zzu N hN _ 1 (by omega) (by omega)];simp only [obs,zr3];refine⟨s&&decide (p*10^k/q+1≠0),by cases s<;>rfl,fun h=> ?_⟩;rw [dct h,Bool.and_true]
 | false=>
  rw [cfa,cfa];simp only [obs,zr3,Nat.add_zero];refine⟨s&&decide (p*10^k/q≠0),by cases s<;>rfl,fun h=> ?_⟩;rw [dct h,Bool.and_true]
theorem zaco (N:Nat) (hN:4000<N) (v:Bool) (m:Nat) (hm:m<10^16):zdm N ⟨v,dg m⟩=some (sgn v m):=by
 have lm:(dg m).length≤16:=(zhy m 16).2 hm
 have hA:=zkp m
 have vA:=zk8 m
 unfold zdm
 generalize dg m=A at*
 have lp:=zco (f:=zdm.r0 N) (fun i=>(((dv (A.drop (A.length-i)):Nat):Int),(A.length:Int)-1-(i:Int),(⟨v,A⟩:zL))) A.length
  (fun i hi=>by
   obtain⟨x,hx⟩:∃x,A[A.length-1-i]?=some x:=zge (by omega);obtain⟨x0,x1⟩:=zq3 hA hx;have hd:=zp8 A _ hx;rw [show A.length-1-i+1=A.length-i by omega]at hd;have hb:=z1t (zadg hA (A.length-i));have hb2:10^(A.drop (A.length-i)).length≤10^16:=zdj (by rw [List.length_drop];omega);simp only [zdm.r0,zdm.b0,dct (show(A.length:Int)-1-(i:Int)≥0 by omega),ctr];rw [show(A.length:Int)-1-(i:Int)=((A.length-1-i:Nat):Int)by omega,zau,hx];simp only [obs];rw [w6e (n:=10*((dv (A.drop (A.length-i)):Nat):Int)),w6e (n:=10*((dv (A.drop (A.length-i)):Nat):Int)+x),w6e,show A.length-(i+1)=A.length-1-i by omega,hd]
   congr 3
   · omega
   · congr 1
     omega)
  (by simp only [zdm.r0,zdm.b0,dcf (show ¬(A.length:Int)-1-(A.length:Int)≥0 by omega),cfa]) (N:=N) (by omega)
 simp only [Nat.sub_zero,nc0,Int.sub_zero,Nat.sub_self,dr0,zi0 (Nat.le_refl A.length),vA]at lp
 show((zh (zdm.r0 N) N (0,w6 ((A.length:Int)-1),(⟨v,A⟩:zL))).bind _)=_
 rw [w6e,lp]
 simp only [obs]
 unfold sgn
 cases v
 · rfl
 · rw [ctr,ctr,w6e,Int.zero_sub]
theorem zaao (N:Nat) (hN:4000<N) (s:Bool) (p q:Nat) (hp:p≤10^100) (hq:0<q) (hq2:q≤10^100) {t:DataType} (ht:zij t) (half:Bool):
 ∃n e,zjd N ⟨⟨s,dg p⟩,dg q⟩ t half=some (n,e)∧((⟨n,⟨#[]⟩⟩:Value),e)=zi6 s p q t half:=by
 obtain⟨⟨l1,l2⟩,l3,l4⟩:=zgb ht
 obtain⟨v,h1,h2⟩:=zacm N hN s p q hp hq hq2 t.Scale.toNat (by omega) half
 rw [Int.toNat_of_nonneg l3]at h1
 unfold zjd
 show∃n e,((zkw N ⟨⟨s,dg p⟩,dg q⟩ t.Scale half).bind _)=_∧_
 rw [h1]
 simp only [obs]
 have hl:=zhy (zz5 (p*10^t.Scale.toNat) q half) t.Length.toNat
 have e:zi6 s p q t half=if 10^t.Length.toNat≤zz5 (p*10^t.Scale.toNat) q half then(⟨0,⟨#[]⟩⟩,19)else(⟨sgn s (zz5 (p*10^t.Scale.toNat) q half),⟨#[]⟩⟩,0):=rfl
 rw [e]
 generalize zz5 (p*10^t.Scale.toNat) q half=Q at*
 by_cases h:10^t.Length.toNat≤Q
 · rw [ifp h];have:¬(dg Q).length≤t.Length.toNat:=fun h3=>by have:=hl.1 h3;omega
   rw [dct (by omega)];exact⟨_,_,rfl,rfl⟩
 · rw [ifn h];have:(dg Q).length≤t.Length.toNat:=hl.2 (by omega);have hQ:Q<10^16:=Nat.lt_of_lt_of_le (by omega:Q<10^t.Length.toNat) (zdj (by omega));rw [dcf (by omega),cfa,zaco N hN v Q hQ];refine⟨_,_,rfl,?_⟩
   congr 2
   unfold sgn
   by_cases h0:Q=0
   · rw [h0];cases v<;>cases s<;>rfl
   · rw [h2 h0]
theorem zwh {t:DataType} (ht:zij t):zfy t=some 0:=by
 obtain⟨h0,h1,h2⟩:=ht
 unfold zfy
 rw [zyc,h0]
 simp only [obs,bsf,cfa]
 rw [zvg,zaq.2 ⟨h1,h2⟩]
 simp only [obs,zh4]
 decide
theorem z7p (N:Nat) (hN:4000<N) {x:Number} (hx:zew x) {t:DataType} (ht:zij t) (half:Bool):zgp N x t half=some (zif x t half):=by
 have hx':=hx
 obtain⟨⟨h1,h2⟩,h3,h4⟩:=hx'
 unfold zgp zjx
 rw [zsy,zyh.2 hx]
 simp only [obs,bsf,cfa,eN]
 rw [zwh ht]
 simp only [obs,bsf,cfa]
 have e1:=zw7 N (by omega) x.N ⟨by omega,by omega⟩ 0 (by omega)
 rw [Nat.pow_zero,Nat.mul_one,nc0]at e1
 have e2:=zw5 x.Scale.toNat (by omega)
 rw [Int.toNat_of_nonneg h3]at e2
 rw [e1,obs,e2,obs]
 simp only [obs]
 have hp:x.N.natAbs≤10^100:=Nat.le_trans (show x.N.natAbs≤10^15 by omega) (by decide)
 obtain⟨n,e,g1,g2⟩:=zaao N hN (decide (x.N<0)) x.N.natAbs (10^x.Scale.toNat) hp (zee _) (zdj (by omega)) ht half
 show((zjd N ⟨⟨decide (x.N<0),dg x.N.natAbs⟩,dg (10^x.Scale.toNat)⟩ t half).bind _)=_
 rw [g1]
 simp only [obs]
 rw [g2]
 rfl
theorem z42 {n:Nat} (h:n≤10^31):n≤10^100:=Nat.le_trans h (by decide)
theorem z4y (s:Bool) (p q:Nat) (hq:0<q) (t:DataType) (half:Bool):zi6 s p q t half=zz6 (sgn s p) q t half:=zags s p q hq t half
theorem z7q (N:Nat) (hN:4000<N) {op:Int} (hop:0≤op∧op≤4) {a b:Number} (ha:zew a) (hb:zew b) {t:DataType} (ht:zij t) (half:Bool):zda N ⟨op,t,half⟩ a b=some (zfo op a b t half):=by
 obtain⟨s1,s2,s3,s4⟩:=zvc ha hb
 have la:=zsx ha s4
 have lb:=zsx hb s4
 have ha':=ha
 have hb':=hb
 obtain⟨⟨a1,a2⟩,a3,a4⟩:=ha'
 obtain⟨⟨b1,b2⟩,b3,b4⟩:=hb'
 have zb:=z6y b (zag a b)
 have ga:=zrm a (zag a b)
 have gb:=zrm b (zag a b)
 have q1:10^(zag a b).toNat≤10^100:=zdj (by omega)
 unfold zda
 try simp only [eD]
 rw [zg2,zaq.2 hop]
 simp only [obs,bnt,cfa]
 rw [zsy,zsy,zyh.2 ha,zyh.2 hb]
 simp only [obs,bsf,cfa]
 rw [zwh ht]
 simp only [obs,bsf,cfa,eN]
 have fin:∀(s:Bool) (p q:Nat),p≤10^100→0<q→q≤10^100→((zjd N ⟨⟨s,dg p⟩,dg q⟩ t half).bind fun r6=>some ((⟨r6.1,(⟨#[]⟩:ByteArray)⟩:Value),r6.2))=some (zi6 s p q t half):=fun s p q hp hq hq2=>by
  obtain⟨n,e,g1,g2⟩:=zaao N hN s p q hp hq hq2 ht half;rw [g1,obs,g2]
 unfold zm5
 rw [zy2 N (by omega) ha hb]
 simp only [obs,z5i]
 have ep:=zw5 (zag a b).toNat (by omega)
 rw [Int.toNat_of_nonneg s3]at ep
 have g:(cond (op==3) (some true) (some (op==4)))=some (decide (op=3∨op=4)):=by
  rw [zbc,zbc]
  by_cases h:op=3
  · rw [dct h,dct (show op=3∨op=4 by omega)];rfl
  · rw [dcf h]
    by_cases h2:op=4
    · rw [dct h2,dct (show op=3∨op=4 by omega)];rfl
    · rw [dcf h2,dcf (show ¬(op=3∨op=4)by omega)];rfl
 rw [g]
 simp only [obs]
 have hbz:(zbj b (zag a b)).natAbs=0↔b.N=0:=by
  rw [Int.natAbs_eq_zero];exact zb
 rw [show(cond (decide (op=3∨op=4)) (some (decide ((zbj b (zag a b)).natAbs=0))) (some false))=some (decide ((op=3∨op=4)∧b.N=0))by
  by_cases h:op=3∨op=4
  · rw [dct h,ctr];congr 1;rw [decide_eq_decide];constructor
    · intro h2;exact⟨h,hbz.1 h2⟩
    · intro h2;exact hbz.2 h2.2
  · rw [dcf h,cfa,dcf (fun h2=>h h2.1)]]
 simp only [obs]
 unfold zfo
 by_cases hz:(op=3∨op=4)∧b.N=0
 · rw [dct hz,ifp hz];rfl
 · rw [dcf hz,ifn hz,cfa]
   by_cases o0:op=0
   · obtain⟨v,m,h1,h2,h3⟩:=z4o N hN (decide (a.N<0)) (decide (b.N<0)) _ _ (p30 la) (p30 lb);rw [ga,gb]at h2;rw [ifp o0,o0];simp only [show((0:Int)==1)=false from rfl,show((0:Int)==2)=false from rfl,show((0:Int)==3)=false from rfl,show((0:Int)==4)=false from rfl,cfa];rw [h1];simp only [obs];rw [ep];simp only [obs,bsf,cfa];rw [fin v m _ (z42 (by omega)) (zee _) q1,z4y _ _ _ (zee _),h2]
   · rw [ifn o0]
     by_cases o1:op=1
     · rw [ifp o1,zbc,dct o1,ctr];have hneg:(cond (!decide (b.N<0)) (some (decide ((((dg (zbj b (zag a b)).natAbs).length:Nat):Int)>0))) (some false))=some (!decide (b.N<0)&&decide ((zbj b (zag a b)).natAbs≠0)):=by
        rw [zr3];cases decide (b.N<0)<;>rfl
       rw [hneg];simp only [obs];obtain⟨v,m,h1,h2,h3⟩:=z4o N hN (decide (a.N<0)) (!decide (b.N<0)&&decide ((zbj b (zag a b)).natAbs≠0)) _ _ (p30 la) (p30 lb);have gb2:sgn (!decide (b.N<0)&&decide ((zbj b (zag a b)).natAbs≠0)) (zbj b (zag a b)).natAbs= -zbj b (zag a b):=by
        by_cases h0:(zbj b (zag a b)).natAbs=0
        · have h00:=Int.natAbs_eq_zero.1 h0;rw [h0,dcf (show ¬(0:Nat)≠0 by omega),Bool.and_false,h00];rfl
        · rw [dct h0,Bool.and_true,z7k,gb]
       rw [ga,gb2]at h2;rw [h1];simp only [obs];rw [ep];simp only [obs,bsf,cfa];rw [fin v m _ (z42 (by omega)) (zee _) q1,z4y _ _ _ (zee _),h2,Int.sub_eq_add_neg]
     · rw [ifn o1,zbc,dcf o1,cfa]
       by_cases o2:op=2
       · rw [ifp o2,zbc,dct o2,ctr];have p90:∀n:Nat,n≤10^30→n<10^90:=fun n h=>Nat.lt_of_le_of_lt h (by decide);rw [z8x N hN _ _ _ _ (p90 _ la) (p90 _ lb)];simp only [obs];have e2:=zw5 (2*zag a b).toNat (by omega);rw [Int.toNat_of_nonneg (by omega)]at e2;rw [w6e,e2];simp only [obs,bsf,cfa];have hm:(zbj a (zag a b)).natAbs*(zbj b (zag a b)).natAbs≤10^100:=Nat.le_trans (Nat.mul_le_mul la lb) (by decide);rw [fin _ _ _ hm (zee _) (zdj (by omega))];have e3:(zbj a (zag a b)).natAbs*(zbj b (zag a b)).natAbs=a.N.natAbs*b.N.natAbs*10^((zag a b-a.Scale).toNat+(zag a b-b.Scale).toNat):=by
          rw [zlw,zlw,Nat.mul_mul_mul_comm,←Nat.pow_add]
         have e4:10^(2*zag a b).toNat=10^(a.Scale+b.Scale).toNat*10^((zag a b-a.Scale).toNat+(zag a b-b.Scale).toNat):=by
          rw [←Nat.pow_add];congr 1;omega
         rw [z23 _ (decide (a.N<0) !=decide (b.N<0)) _ _ (zee _) _ _ (fun h=>by rw [dct h,Bool.and_true]),e3,e4,z1c _ _ _ _ (zee _) (zee _)]
       · rw [ifn o2,zbc,dcf o2,cfa]
         by_cases o3:op=3
         · have hb0:b.N≠0:=fun h=>hz ⟨.inl o3,h⟩;have hbp:0<(zbj b (zag a b)).natAbs:=by
            have:¬(zbj b (zag a b)).natAbs=0:=fun h=>hb0 (hbz.1 h);omega
           rw [ifp o3,zbc,dct o3,ctr];simp only [obs,bsf,cfa];rw [fin _ _ _ (z42 (by omega)) hbp (z42 (by omega))];have hmin:0≤a.Scale+b.Scale-zag a b:=by unfold zag;split<;>omega
           have e3:a.N.natAbs*10^b.Scale.toNat=(zbj a (zag a b)).natAbs*10^(a.Scale+b.Scale-zag a b).toNat:=by
            rw [zlw,Nat.mul_assoc,←Nat.pow_add];congr 2;omega
           have e4:b.N.natAbs*10^a.Scale.toNat=(zbj b (zag a b)).natAbs*10^(a.Scale+b.Scale-zag a b).toNat:=by
            rw [zlw,Nat.mul_assoc,←Nat.pow_add];congr 2;omega
           rw [e3,e4,z1c _ _ _ _ (zee _) hbp];rfl
         · have hb0:b.N≠0:=fun h=>hz ⟨by omega,h⟩;have hbp:0<(zbj b (zag a b)).natAbs:=by
            have:¬(zbj b (zag a b)).natAbs=0:=fun h=>hb0 (hbz.1 h);omega
           have p400:∀n:Nat,n≤10^30→n<10^400:=fun n h=>Nat.lt_of_le_of_lt h (by decide);have hm:=Nat.mod_lt (zbj a (zag a b)).natAbs hbp;rw [ifn o3,zbc,dcf o3,cfa,zbc,dct (show op=4 by omega),ctr,z09 N hN _ _ (p400 _ la) hbp (p400 _ lb)];simp only [obs];rw [ep];simp only [obs,bsf,cfa];rw [fin _ _ _ (z42 (by omega)) (zee _) q1]
theorem zuc (N:Nat) (hN:2000<N) {s:Storage} (h:zi1 s) {a:Int} (ha:zev s a=true):
 zf8 N s a=some (match ldV s a with|some o=>(zky o,0)|none=>(z0p,22)):=by
 obtain⟨a1,a2,a3⟩:=zmh ha
 have hl:=h.le
 have hq:=h.quad
 have ht:=h.tags
 unfold zf8
 rw [z19 h.ok,ha]
 simp only [obs,bnt,cfa]
 have ed:w6 (a.tdiv 16)=(((a/16).toNat:Nat):Int):=by
  rw [tde a1,w6e];omega
 have hi:(a/16).toNat<s.Tags.length:=by omega
 rw [ed,zau,lge hi]
 simp only [obs]
 unfold ldV
 rw [lge hi]
 cases hb:s.Tags[(a/16).toNat]with
 | false=>rfl
 | true=>
  simp only [bnt,cfa,if_true];unfold zi5;rw [w6e (n:=(((a/16).toNat:Nat):Int)*16),w6e,ifp,ifp];simp only [obs];have e:s.Bytes.extract ((((a/16).toNat:Nat):Int)*16).toNat ((((a/16).toNat:Nat):Int)*16+16).toNat=s.Bytes.extract (16*(a/16).toNat) (16*(a/16).toNat+16):=by
   rw [show((((a/16).toNat:Nat):Int)*16).toNat=16*(a/16).toNat by omega,show((((a/16).toNat:Nat):Int)*16+16).toNat=16*(a/16).toNat+16 by omega]
  rw [e,zaap N (by omega) _ (by rw [zdf _ _ _ (by omega) (by omega)];omega),zsc];obtain⟨off,_,h2⟩:=h.ptr (a/16).toNat (by rw [lge hi,hb]);rw [h2];rfl
theorem z2d {s:Storage} (h:s.Tags.length≤100000):zc6 s=some s:=by
 unfold zc6 zjs
 rw [zbe (by omega)]
 rfl
theorem zzs (N:Nat) (hN:2000<N) {s:Storage} (h:zi1 s) {a:Nat} {d:ByteArray} (hd:a+d.size≤s.Bytes.size) (hd0:0<d.size):zbi N s (a:Int) d=some (wrV s a d):=by
 have hl:=h.le
 have hq:=h.quad
 have ht:=h.tags
 have hmax:IntKind.i64.max=9223372036854775807:=by decide
 unfold zbi znc
 rw [z2d (by omega),hmax]
 simp only [obs]
 have z1:(s.Bytes.extract (0:Int).toNat (a:Int).toNat).size=a:=by rw [zdf _ _ _ (by omega) (by omega)];omega
 rw [ifp,ifp,ifn (by rw [z1];omega),w6e (n:=(a:Int)+(d.size:Int)),ifp]
 have z2:(s.Bytes.extract ((a:Int)+(d.size:Int)).toNat s.Bytes.size).size=s.Bytes.size-(a+d.size):=by rw [zdf _ _ _ (by omega) (by omega)];omega
 rw [ifn (by rw [z2,bsa,z1];omega)]
 simp only [obs]
 have f1:((s.Bytes.extract (0:Int).toNat (a:Int).toNat)++d)++(s.Bytes.extract ((a:Int)+(d.size:Int)).toNat s.Bytes.size)=(wrV s a d).Bytes:=by
  refine zi2 ?_;rw [zfe,zfe,ze6,ze6,show(0:Int).toNat=0 from rfl,dr0,show((a:Int)+(d.size:Int)).toNat=a+d.size by omega,←zc5 s.Bytes,List.take_length,itn];rfl
 rw [f1]
 have lp:=zco (f:=zbi.r0 N) (fun i=>((a:Int),d,(i:Int),(⟨⟨#[]⟩,[]⟩:Storage),(⟨(wrV s a d).Bytes,if i=0 then s.Tags else clr s.Tags a i⟩:Storage))) d.size
  (fun i hi=>by
   have hlen:(if i=0 then s.Tags else clr s.Tags a i).length=s.Tags.length:=by split<;>simp [z2o]
   have ei:w6 ((w6 ((a:Int)+(i:Int))).tdiv 16)=(((a+i)/16:Nat):Int):=by
    rw [w6e (n:=(a:Int)+(i:Int)),tde,w6e];omega
   simp only [zbi.r0,zbi.b0,dct (show(i:Int)<(d.size:Int)by omega),ctr,ei,hlen];rw [ifp,ifp,itn];obtain⟨x,hx⟩:∃x,(if i=0 then s.Tags else clr s.Tags a i)[(a+i)/16]?=some x:=zge (by omega);rw [hx];simp only [obs];rw [w6e];have e2:(if i=0 then s.Tags else clr s.Tags a i).set ((a+i)/16) false=clr s.Tags a (i+1):=by
    refine List.ext_getElem? fun k=> ?_;rw [zyl,List.getElem?_set,hlen];have hc:(if i=0 then s.Tags else clr s.Tags a i)[k]?=if i≠0∧16*k<a+i∧a<16*k+16 then(if k<s.Tags.length then some false else none)else s.Tags[k]?:=by
     by_cases h0:i=0
     · rw [ifp h0,ifn]
     · rw [ifn h0,zyl]
       by_cases h1:16*k<a+i∧a<16*k+16
       · rw [ifp h1,ifp (show i≠0∧16*k<a+i∧a<16*k+16 from⟨h0,h1⟩)]
       · rw [ifn h1,ifn (fun h=>h1 h.2)]
    rw [hc]
    by_cases hk:(a+i)/16=k
    · rw [ifp hk,ifp (show(a+i)/16<s.Tags.length by omega),ifp (show 16*k<a+(i+1)∧a<16*k+16 by omega),ifp]
    · rw [ifn hk]
      by_cases h1:i≠0∧16*k<a+i∧a<16*k+16
      · rw [ifp h1,ifp (show 16*k<a+(i+1)∧a<16*k+16 by omega)]
      · rw [ifn h1,ifn (show ¬(16*k<a+(i+1)∧a<16*k+16)by omega)]
   rw [e2,ifn (show ¬i+1=0 by omega)];rfl)
  (by simp only [zbi.r0,zbi.b0,dcf (show ¬(d.size:Int)<(d.size:Int)by omega),cfa]) (N:=N) (by omega)
 simp only [if_true,nc0]at lp
 rw [lp,ifn (show ¬d.size=0 by omega)]
 rfl
theorem z64 (N:Nat) (hN:200<N) (off:Nat) (h:off≤16777215):zmg N (zky off)=some (pbV off):=by
 unfold zmg zky
 have b:=fun v k hv hk=>ztq N (by omega) v k hv hk
 have hmax:IntKind.i64.max=9223372036854775807:=by decide
 have sz:∀v k,(zdg (zir v k)).size=k:=fun v k=>by
  show(bl (zdg (zir v k))).length=k;rw [zg6,lnm,zwc]
 rw [show zay N 0 1=_ from b 0 1 (by decide) (by decide),show zay N 0 2=_ from b 0 2 (by decide) (by decide),show zay N 1 6=_ from b 1 6 (by decide) (by decide),show zay N (off:Int) 6=_ from b off 6 (by omega) (by decide),hmax]
 simp only [obs]
 have z0:(⟨#[0]⟩:ByteArray).size=1:=rfl
 rw [ifn (by rw [sz,z0];decide),ifn (by rw [bsa,sz,z0,sz];decide),ifn (by rw [bsa,bsa,sz,z0,sz,sz];decide),ifn (by rw [bsa,bsa,bsa,sz,z0,sz,sz,sz];decide)]
 refine congrArg some (zi2 ?_)
 unfold pbV
 rw [zfe,zfe,zfe,zfe,zg6,zg6,zg6,zg6,zg6]
 simp only [List.map_append]
 rfl
theorem zvf (N:Nat) (hN:2000<N) {s:Storage} (h:zi1 s) {a:Int} (ha:zev s a=true) (off:Nat) (ho:off≤16777215):zeu N s a (zky off)=some (stV s a.toNat off):=by
 obtain⟨a1,a2,a3⟩:=zmh ha
 have hl:=h.le
 have hq:=h.quad
 have ht:=h.tags
 have hA:a=((a.toNat:Nat):Int):=by omega
 have hw:a.toNat+(pbV off).size≤s.Bytes.size:=by rw [zm7];omega
 unfold zeu
 try simp only [eS]
 rw [z64 N (by omega) off ho]
 simp only [obs]
 have hp:=zzs N hN h hw (by rw [zm7];omega)
 rw [←hA]at hp
 rw [hp]
 simp only [obs]
 have ed:w6 (a.tdiv 16)=((a.toNat/16:Nat):Int):=by
  rw [tde a1,w6e];omega
 have hlen:(wrV s a.toNat (pbV off)).Tags.length=s.Tags.length:=z2o _ _ _
 rw [ed,ifp,ifp (by rw [hlen];omega),itn,lge (by rw [hlen];omega)]
 rfl
def zkc (b:ByteArray) (n:Nat):ByteArray:=⟨((bl b).take n++List.replicate (n-b.size) 32).toArray⟩
theorem zxh (b:ByteArray) (n:Nat):(zkc b n).size=n:=by
 show((bl b).take n++List.replicate (n-b.size) 32).length=n
 rw [lna,lnt,lnr,zc5];omega
theorem zaan (N:Nat) (c:Nat) (hc:c<256) (n:Nat) (hn:n<N) (hn2:n≤100000):zc8 N (c:Int) (n:Int)=some ⟨(List.replicate n (UInt8.ofNat c)).toArray⟩:=by
 unfold zc8
 have:=zco (f:=zc8.r0 N) (fun i=>((c:Int),(n:Int),List.replicate i (c:Int),(i:Int))) n
  (fun i hi=>by
   simp only [zc8.r0,zc8.b0,dct (show(i:Int)<(n:Int)by omega),ctr];rw [zbe (by simp only [lnr,lnc,ln0];omega),ctr,w6e,←List.replicate_succ'];rfl)
  (by simp only [zc8.r0,zc8.b0,dcf (show ¬(n:Int)<(n:Int)by omega),cfa]) hn
 simp only [nc0,List.replicate_zero]at this
 rw [this,obs]
 congr 1
 refine zi2 ?_
 rw [zg6,List.map_replicate]
 rfl
theorem zw6 (N:Nat) (hN:10000<N) (b:ByteArray) (hb:b.size≤5000) (n:Nat) (hn:n≤5000):zei N b (n:Int)=some (zkc b n):=by
 have hmax:IntKind.i64.max=9223372036854775807:=by decide
 unfold zei
 by_cases h:n≤b.size
 · rw [dct (by omega),ctr,ifp,ifp]
   congr 1
   refine zi2 ?_;rw [ze6,show(0:Int).toNat=0 from rfl,dr0,itn];show _=(bl b).take n++List.replicate (n-b.size) 32;rw [show n-b.size=0 by omega,List.replicate_zero,List.append_nil]
 · rw [dcf (by omega),cfa,w6e,show(n:Int)-(b.size:Int)=((n-b.size:Nat):Int)by omega,show(32:Int)=((32:Nat):Int)from rfl,zaan N 32 (by decide) _ (by omega) (by omega),obs,hmax];have hs:(⟨(List.replicate (n-b.size) (UInt8.ofNat 32)).toArray⟩:ByteArray).size=n-b.size:=by
    show(List.replicate (n-b.size) (UInt8.ofNat 32)).length=_;rw [lnr]
   rw [ifn (by rw [hs];omega)]
   congr 1
   refine zi2 ?_;rw [zfe];show bl b++List.replicate (n-b.size) 32=(bl b).take n++List.replicate (n-b.size) 32;rw [List.take_of_length_le (by rw [zc5];omega)]
theorem zy4 (c:UInt8):∀n,Lib.repeatL [c] n=List.replicate n c
 | 0=>rfl
 | n+1=>by show c::Lib.repeatL [c] n=_;rw [zy4 c n,List.replicate_succ]
theorem zag3 (b:ByteArray) (hb:b.size≤5000) (n:Nat) (hn:n≤5000):zin b (n:Int)=some ⟨(bl b++List.replicate (n-b.size) 32).toArray⟩:=by
 have hmax:IntKind.i64.max=9223372036854775807:=by decide
 unfold zin zt8
 rw [w6e]
 have e:(if(0:Int)>(n:Int)-(b.size:Int)then 0 else(n:Int)-(b.size:Int))=((n-b.size:Nat):Int):=by split<;>omega
 have hs1:(⟨#[32]⟩:ByteArray).size=1:=rfl
 rw [e,ifp ⟨by omega,by omega,by rw [hs1];omega⟩,obs,itn,zy4,hmax]
 have hs:(⟨(List.replicate (n-b.size) (32:UInt8)).toArray⟩:ByteArray).size=n-b.size:=by
  show(List.replicate (n-b.size) (32:UInt8)).length=_;rw [lnr]
 rw [ifn (by rw [hs];omega)]
 refine congrArg some (zi2 ?_)
 rw [zfe]
 rfl
theorem zabd (b:ByteArray) (n:Nat):(⟨(bl b++List.replicate (n-b.size) 32).toArray⟩:ByteArray).extract 0 n=zkc b n:=by
 refine zi2 ?_
 rw [ze6,dr0]
 show(bl b++List.replicate (n-b.size) 32).take n=(bl b).take n++List.replicate (n-b.size) 32
 rw [List.take_append,zc5,List.take_replicate,Nat.min_self]
def cmpL (x y:List UInt8):Int:=if Op.bytesLess x y=true then-1 else if x=y then 0 else 1
def zqr (o:Int):Int:=if o<0 then 1 else if o=0 then 2 else 4
theorem zpx (o:Int):zc3 o=some (zqr o):=by
 unfold zc3 zqr
 by_cases h:o<0
 · rw [dct h,ifp h];rfl
 · rw [dcf h,ifn h,cfa,zbc]
   by_cases h2:o=0
   · rw [dct h2,ifp h2];rfl
   · rw [dcf h2,ifn h2];rfl
def zl5 (a b:ByteArray):Int:=zqr (cmpL (bl (zkc a (max a.size b.size))) (bl (zkc b (max a.size b.size))))
theorem zve (N:Nat) (hN:10000<N) (a b:ByteArray) (ha:a.size≤5000) (hb:b.size≤5000):zf5 N a b=some (zl5 a b):=by
 unfold zf5
 have e:(if(b.size:Int)>(a.size:Int)then(b.size:Int)else(a.size:Int))=((max a.size b.size:Nat):Int):=by split<;>omega
 rw [e,zw6 N hN a ha _ (by omega),zw6 N hN b hb _ (by omega)]
 simp only [obs]
 rw [zss,zss,zh4,zh4]
 simp only [obs]
 unfold zl5 cmpL
 generalize bl (zkc a (max a.size b.size))=x
 generalize bl (zkc b (max a.size b.size))=y
 cases hx:Op.bytesLess x y with
 | true=>
  rw [ifp rfl];simp only [Bool.true_or,bnt,cfa,ctr];rw [show w6 ((0:Int)-1)= -1 by decide,zpx];rfl
 | false=>
  rw [ifn (by decide)];simp only [Bool.false_or,cfa]
  by_cases hxy:x=y
  · rw [hxy,ifp rfl];simp only [bst,bnt,cfa];rw [show w6 ((0:Int)-0)=0 by decide,zpx];rfl
  · rw [ifn hxy,show(x==y)=false from beq_eq_false_iff_ne.2 hxy];simp only [Bool.not_false,ctr];rw [show w6 ((1:Int)-0)=1 by decide,zpx];rfl
def zfq (x:Number):Int:=x.N.tdiv (10^x.Scale.toNat)
theorem zws {x:Number} (hx:zew x): -999999999999999≤zfq x∧zfq x≤999999999999999:=by
 obtain⟨⟨h1,h2⟩,_⟩:=hx
 have h:=Int.natAbs_tdiv_le_natAbs x.N (10^x.Scale.toNat)
 unfold zfq
 omega
theorem zvd (N:Nat) (hN:100<N) {x:Number} (hx:zew x):zf4 N x=some (zfq x):=by
 have hw:=zws hx
 obtain⟨⟨h1,h2⟩,h3,h4⟩:=hx
 unfold zf4
 have hp:=zzt N hN x.Scale.toNat (by omega)
 rw [Int.toNat_of_nonneg h3]at hp
 have hpos:=zee x.Scale.toNat
 rw [hp,obs,ifn,show((10^x.Scale.toNat:Nat):Int)=10^x.Scale.toNat by rw [Int.natCast_pow];rfl]
 show some (w6 (zfq x))=_
 rw [w6e]
def zt2 (m scale:Nat):List UInt8:=List.replicate (scale+1-(Lib.decDigits m).length) 48++Lib.decDigits m
def ptT (l:List UInt8) (scale:Nat):List UInt8:=if 0<scale then l.take (l.length-scale)++[46]++l.drop (l.length-scale)else l
def sgT (n:Int) (l:List UInt8):ByteArray:=⟨(if n<0 then [45]++l else l).toArray⟩
def zrj (x:Number):ByteArray:=sgT x.N (ptT (zt2 x.N.natAbs x.Scale.toNat) x.Scale.toNat)
theorem zab9 {x:Number} (h0:0≤x.Scale) (B:ByteArray) (h1:x.Scale<(B.size:Int)) (h2:B.size≤100):
 (cond (decide (x.Scale>0))
 (if 0≤(w6 ((B.size:Int)-x.Scale))∧(w6 ((B.size:Int)-x.Scale))≤(B.size:Int)then(if 0≤(0:Int)∧(0:Int)≤(w6 ((B.size:Int)-x.Scale))then(if(((B.extract (0:Int).toNat (w6 ((B.size:Int)-x.Scale)).toNat).size+(⟨#[46]⟩:ByteArray).size:Nat):Int)>IntKind.i64.max then none else if 0≤(w6 ((B.size:Int)-x.Scale))∧(w6 ((B.size:Int)-x.Scale))≤(B.size:Int)then(if((((B.extract (0:Int).toNat (w6 ((B.size:Int)-x.Scale)).toNat)++(⟨#[46]⟩:ByteArray)).size+(B.extract (w6 ((B.size:Int)-x.Scale)).toNat B.size).size:Nat):Int)>IntKind.i64.max then none else cond (decide (x.N<0))
 (if(((⟨#[45]⟩:ByteArray).size+(((B.extract (0:Int).toNat (w6 ((B.size:Int)-x.Scale)).toNat)++(⟨#[46]⟩:ByteArray))++(B.extract (w6 ((B.size:Int)-x.Scale)).toNat B.size)).size:Nat):Int)>IntKind.i64.max then none else some ((⟨#[45]⟩:ByteArray)++(((B.extract (0:Int).toNat (w6 ((B.size:Int)-x.Scale)).toNat)++(⟨#[46]⟩:ByteArray))++(B.extract (w6 ((B.size:Int)-x.Scale)).toNat B.size))))
 (some (((B.extract (0:Int).toNat (w6 ((B.size:Int)-x.Scale)).toNat)++(⟨#[46]⟩:ByteArray))++(B.extract (w6 ((B.size:Int)-x.Scale)).toNat B.size))))else none)else none)else none)
 (cond (decide (x.N<0)) (if(((⟨#[45]⟩:ByteArray).size+B.size:Nat):Int)>IntKind.i64.max then none else some ((⟨#[45]⟩:ByteArray)++B)) (some B)))=some (sgT x.N (ptT (bl B) x.Scale.toNat)):=by
 have hmax:IntKind.i64.max=9223372036854775807:=by decide
 have z1:(⟨#[46]⟩:ByteArray).size=1:=rfl
 have z2:(⟨#[45]⟩:ByteArray).size=1:=rfl
 rw [hmax,w6e]
 obtain⟨k,hk⟩:∃k:Nat,(B.size:Int)-x.Scale=(k:Int):=⟨((B.size:Int)-x.Scale).toNat,by omega⟩
 have hk2:k=B.size-x.Scale.toNat:=by omega
 rw [hk,itn,show(0:Int).toNat=0 from rfl]
 have s1:(B.extract 0 k).size=k:=by rw [zdf _ _ _ (by omega) (by omega)];omega
 have s2:(B.extract k B.size).size=B.size-k:=by rw [zdf _ _ _ (by omega) (by omega)]
 by_cases hs:x.Scale>0
 · rw [dct hs,ctr,ifp,ifp,ifn (by rw [s1,z1];omega),ifp,ifn (by rw [bsa,s1,z1,s2];omega)];have e:bl ((B.extract 0 k++(⟨#[46]⟩:ByteArray))++B.extract k B.size)=ptT (bl B) x.Scale.toNat:=by
    unfold ptT;rw [zfe,zfe,ze6,ze6,dr0,ifp,←zc5 B,List.take_length,zc5,hk2];rfl
   by_cases hn:x.N<0
   · rw [dct hn,ctr,ifn (by rw [bsa,bsa,s1,z1,s2,z2];omega)];refine congrArg some (zi2 ?_);rw [zfe,e];unfold sgT;rw [ifp hn];rfl
   · rw [dcf hn,cfa];refine congrArg some (zi2 ?_);rw [e];unfold sgT;rw [ifn hn];rfl
 · rw [dcf hs,cfa];have e:ptT (bl B) x.Scale.toNat=bl B:=by unfold ptT;rw [ifn]
   rw [e]
   by_cases hn:x.N<0
   · rw [dct hn,ctr,ifn (by rw [z2];omega)];refine congrArg some (zi2 ?_);rw [zfe];unfold sgT;rw [ifp hn];rfl
   · rw [dcf hn,cfa];unfold sgT;rw [ifn hn];rfl
theorem z2m (m:Nat):∀k,0<k→m<10^k→(Lib.decDigits m).length≤k∧0<(Lib.decDigits m).length:=by
 induction m using Nat.strongRecOn with
 | _ m ih=>
  intro k hk hm;rw [Lib.decDigits]
  by_cases h:m<10
  · rw [dif_pos h,lns];omega
  · rw [dif_neg h,lna,lns];obtain⟨j,rfl⟩:∃j,k=j+1:=⟨k-1,by omega⟩;rw [Nat.pow_succ]at hm;have hj:0<j:=by
     refine cbc fun h0=> ?_;rw [show j=0 by omega]at hm;omega
    have:=ih (m/10) (by omega) j hj (by omega);omega
theorem z6c (m scale:Nat) (hm:m<10^15) (hs:scale≤15):scale<(zt2 m scale).length∧(zt2 m scale).length≤16:=by
 have:=z2m m 15 (by decide) hm
 unfold zt2
 rw [lna,lnr]
 omega
theorem zw9:∀(N m:Nat),0<N→m<10^N→N≤18→∀K,zc9 (N+K) (m:Int)=some ⟨(Lib.decDigits m).toArray⟩
 | 0,m,h,_,_=>by omega
 | N+1,m,_,hm,hN=>fun K=>by
  have hmax:IntKind.i64.max=9223372036854775807:=by decide
  have h18:10^(N+1)≤10^18:=zdj hN;rw [show N+1+K=(N+K)+1 by omega];show(cond (decide ((m:Int)<(-9))) _ (cond (decide ((m:Int)<0)) _ (cond (decide ((m:Int)<10)) _ _)))=_;rw [dcf (by omega),dcf (by omega),cfa,cfa,Lib.decDigits]
  by_cases h:m<10
  · rw [dct (by omega),ctr,dif_pos h,w6e,zmw (by omega) (by omega)];refine congrArg some (zi2 ?_);rw [zg6];show [UInt8.ofNat (48+(m:Int)).toNat]=[UInt8.ofNat (48+m)];rw [show(48+(m:Int)).toNat=48+m by omega]
  · rw [Nat.pow_succ]at hm;have hN0:0<N:=by
     refine cbc fun h0=> ?_;rw [show N=0 by omega]at hm;omega
    have ih:=zw9 N (m/10) hN0 (by omega) (by omega) K;rw [dcf (by omega),cfa,dif_neg h,tde,tme,w6e (n:=(m:Int)/10),show(m:Int)/10=((m/10:Nat):Int)by omega,ih,obs,w6e,zmw (by omega) (by omega),hmax];have hl:=z2m (m/10) N hN0 (by omega);have hs:(⟨(Lib.decDigits (m/10)).toArray⟩:ByteArray).size=(Lib.decDigits (m/10)).length:=rfl;have hs2:(zdg ([48+(m:Int)%10]:List Int)).size=1:=rfl;rw [ifn (by rw [hs,hs2];omega)];refine congrArg some (zi2 ?_);rw [zfe,zg6];show Lib.decDigits (m/10)++[UInt8.ofNat (48+(m:Int)%10).toNat]=Lib.decDigits (m/10)++[UInt8.ofNat (48+m%10)];rw [show(48+(m:Int)%10).toNat=48+m%10 by omega]
theorem z7n (N:Nat) (hN:100<N) {x:Number} (hx:zew x):zd0 N x=some (zrj x):=by
 have hx':=hx
 obtain⟨⟨h1,h2⟩,h3,h4⟩:=hx'
 have hmax:IntKind.i64.max=9223372036854775807:=by decide
 have hlen:=z2m x.N.natAbs 15 (by decide) (by omega)
 have hdl:=z6c x.N.natAbs x.Scale.toNat (by omega) (by omega)
 unfold zd0 zfz
 rw [zrx (by omega) (by omega)]
 simp only [obs,eN]
 have hd:=zw9 15 x.N.natAbs (by decide) (by omega) (by decide) (N-15)
 rw [show 15+(N-15)=N by omega]at hd
 rw [hd]
 simp only [obs]
 have z1:(⟨#[48]⟩:ByteArray).size=1:=rfl
 have lp:=zco (f:=zd0.r0 N) (fun i=>((⟨(List.replicate i (48:UInt8)++Lib.decDigits x.N.natAbs).toArray⟩:ByteArray),x)) (x.Scale.toNat+1-(Lib.decDigits x.N.natAbs).length)
  (fun i hi=>by
   have hs:(⟨(List.replicate i (48:UInt8)++Lib.decDigits x.N.natAbs).toArray⟩:ByteArray).size=i+(Lib.decDigits x.N.natAbs).length:=by
    show(List.replicate i (48:UInt8)++Lib.decDigits x.N.natAbs).length=_;rw [lna,lnr]
   simp only [zd0.r0,zd0.b0];rw [dct (by rw [hs];omega),ctr,hmax,ifn (by rw [hs,z1];omega)];refine congrArg some (congrArg Stp.again (Prod.ext (zi2 ?_) rfl));show bl ((⟨#[48]⟩:ByteArray)++⟨(List.replicate i (48:UInt8)++Lib.decDigits x.N.natAbs).toArray⟩)=List.replicate (i+1) (48:UInt8)++Lib.decDigits x.N.natAbs;rw [zfe,List.replicate_succ];rfl)
  (by
   have hs:(⟨(List.replicate (x.Scale.toNat+1-(Lib.decDigits x.N.natAbs).length) (48:UInt8)++Lib.decDigits x.N.natAbs).toArray⟩:ByteArray).size=x.Scale.toNat+1-(Lib.decDigits x.N.natAbs).length+(Lib.decDigits x.N.natAbs).length:=by
    show(List.replicate (x.Scale.toNat+1-(Lib.decDigits x.N.natAbs).length) (48:UInt8)++Lib.decDigits x.N.natAbs).length=_;rw [lna,lnr]
   simp only [zd0.r0,zd0.b0];rw [dcf (by rw [hs];omega),cfa]) (N:=N) (by omega)
 rw [List.replicate_zero,List.nil_append]at lp
 rw [lp]
 have:=zab9 h3 ⟨(zt2 x.N.natAbs x.Scale.toNat).toArray⟩ (by show x.Scale<((zt2 x.N.natAbs x.Scale.toNat).length:Int);omega) (by show(zt2 x.N.natAbs x.Scale.toNat).length≤100;omega)
 rw [zakk]at this
 unfold zrj
 exact this
theorem z8l {x:Number} (hx:zew x):(zrj x).size≤256:=by
 obtain⟨⟨h1,h2⟩,h3,h4⟩:=hx
 have hdl:=z6c x.N.natAbs x.Scale.toNat (by omega) (by omega)
 have hp:(ptT (zt2 x.N.natAbs x.Scale.toNat) x.Scale.toNat).length≤17:=by
  unfold ptT;split
  · rw [lna,lna,lnt,List.length_drop,lns];omega
  · omega
 unfold zrj sgT
 show(if x.N<0 then [45]++ptT (zt2 x.N.natAbs x.Scale.toNat) x.Scale.toNat else ptT (zt2 x.N.natAbs x.Scale.toNat) x.Scale.toNat).length≤256
 split
 · rw [lna,lns];omega
 · omega
theorem zaa4 (N:Nat) (hN:2000<N) {t:DataType} (ht:zij t) {b:ByteArray} (hb:(b.size:Int)=szE t):
 ∃v a e,zug N t b=some (v,a,e)∧(match zj4 t b with|some n=>v.N=n∧e=0|none=>e≠0):=zw8 N hN ht hb
theorem zadb (o:Int):zq0 o=some (zqr o):=zpx o
theorem z0d (a b:ByteArray) (ha:a.size≤5000) (hb:b.size≤5000):zgd a b=some (zl5 a b):=zve 20000 (by decide) a b ha hb
theorem z5l (N:Nat) (hN:100<N) {x:Number} (hx:zew x):zp4 N x=some (zfq x):=zvd N hN hx
theorem zaa1 {x:Number} (hx:zew x):zi9 x=some (zrj x,0):=by
 unfold zi9
 rw [z7n 1000 (by decide) hx]
 rfl
theorem zae0 (N:Nat) (hN:300<N) {x:Number} (hx:zew x) {t:DataType} (ht:zij t) (half:Bool):zrd N x t half=some (zif x t half):=by
 exact z7p (N+4000) (by omega) hx ht half
theorem z68 (N:Nat) (hN:300<N) {a b:Number} (ha:zew a) (hb:zew b):zok N a b=some (z43 (zbj a (zag a b)) (zbj b (zag a b)),0):=by
 unfold zok
 rw [zzy (N+4000) (by omega) ha hb]
 rfl
theorem zae1 (N:Nat) (hN:300<N) {op:Int} (hop:0≤op∧op≤4) {a b:Number} (ha:zew a) (hb:zew b) {t:DataType} (ht:zij t) (half:Bool):zf0 N op a b t half=some (zfo op a b t half):=z7q (N+4000) (by omega) hop ha hb ht half
theorem zaed (N:Nat) (hN:2000<N) {s:Storage} (h:zi1 s) {a:Int} (ha:zev s a=true):
 zqs N s a=some (match ldV s a with|some o=>(zky o,0)|none=>(z0p,22)):=zuc N hN h ha
theorem zzg (N:Nat) (hN:2000<N) {s:Storage} (h:zi1 s) {a:Int} (ha:zev s a=true) (off:Nat) (ho:off≤16777215):zff N s a (zky off)=some (stV s a.toNat off,0):=by
 unfold zff
 rw [zvf N hN h ha off ho]
 rfl
def znq (t:DataType) (n:Int):Prop:= -((10^t.Length.toNat:Nat):Int)<n∧n<((10^t.Length.toNat:Nat):Int)
theorem zxu:∀(l:List Int) (a:Int),l.foldl (fun n d=>n*10+d) a=a*10^l.length+zcy l
 | [],a=>by simp [zcy]
 | x::l,a=>by
  have h1:=zxu l (a*10+x);have h2:=zxu l x;have e:zcy (x::l)=l.foldl (fun n d=>n*10+d) x:=by simp [zcy]
  rw [List.foldl_cons,h1,e,h2,lnc,Int.pow_succ,Int.add_mul];have:a*10*10^l.length=a*(10^l.length*10):=by rw [Int.mul_assoc,Int.mul_comm 10]
  omega
theorem zxt (a b:List Int):zcy (a++b)=zcy a*10^b.length+zcy b:=by
 unfold zcy
 rw [List.foldl_append,zxu]
 rfl
theorem ztz:∀(l:List Int),(∀d∈l,d=0)→zcy l=0
 | [],_=>rfl
 | x::l,h=>by
  have e:zcy (x::l)=zcy l:=by unfold zcy;rw [List.foldl_cons,h x List.mem_cons_self];rfl
  rw [e];exact ztz l fun d hd=>h d (List.mem_cons_of_mem _ hd)
theorem z5p:∀(l r:List Int),l=r.reverse→(∀d∈l,0≤d∧d≤9)→0≤zcy l∧zcy l<(10^l.length:Nat):=by
 intro l r
 induction r generalizing l with
 | nil=>intro e _;subst e;exact⟨Int.le_refl _,by decide⟩
 | cons x r ih=>
  intro e hd;rw [List.reverse_cons]at e;subst e;have h1:=ih _ rfl fun d hd'=>hd d (List.mem_append_left _ hd');have h2:=hd x (List.mem_append_right _ List.mem_cons_self);rw [zpi,lna,lns,Nat.pow_succ];omega
theorem z6d {t:DataType} (ht:zij t) {b:ByteArray} (hb:(b.size:Int)=szE t) {n:Int} (h:zj4 t b=some n):znq t n:=by
 unfold zj4 at h
 unfold znq
 obtain⟨⟨l1,l2⟩,_,_⟩:=zgb ht
 by_cases hk:t.Kind=3
 · rw [ifp hk]at h;split at h
   · rename_i h1;cases h;exact h1
   · cases h
 · rw [ifn hk]at h;have hr:∀d∈(if t.Kind=1 then zol (bl b)else zg7 (bl b)),0≤d∧d≤15:=by
    split
    · exact zxl.1
    · exact zxl.2
   generalize (if t.Kind=1 then zol (bl b)else zg7 (bl b))=l at h hr;unfold zxz at h;split at h
   · cases h
   · rename_i h1;have h2:∀i,i<l.length-1→znd l t.Length i=false:=fun i hi=>by
      cases hb:znd l t.Length i with
      | false=>rfl
      | true=>exact absurd (.inl (List.any_eq_true.2 ⟨i,by simpa using hi,hb⟩)) h1
     have hg:∀i,i<l.length-1→∃d,(l.take (l.length-1))[i]?=some d∧0≤d∧d≤9∧((i:Int)<(l.length:Int)-1-t.Length→d=0):=fun i hi=>by
      have hx:l[i]?=some l[i]:=lge (by omega);have:=hr _ (List.getElem_mem (show i<l.length by omega));have h3:=h2 i hi;unfold znd at h3;rw [gdd,hx]at h3;simp only [Option.getD_some,Bool.or_eq_false_iff,Bool.and_eq_false_iff,decide_eq_false_iff_not]at h3;refine⟨l[i],by rw [List.getElem?_take,ifp hi,hx],this.1,by omega,fun h4=> ?_⟩;rcases h3.2 with h5|h5<;>omega
     have hB:0≤zcy (l.take (l.length-1))∧zcy (l.take (l.length-1))<((10^t.Length.toNat:Nat):Int):=by
      have hlen:(l.take (l.length-1)).length=l.length-1:=by rw [lnt];omega
      generalize l.take (l.length-1)=k at hg hlen;have hk9:∀d∈k,0≤d∧d≤9:=fun d hd=>by
       obtain⟨i,hi,e⟩:=List.getElem_of_mem hd;obtain⟨d',e2,h3,h4,_⟩:=hg i (by omega);rw [lge hi,e]at e2;cases e2;exact⟨h3,h4⟩
      by_cases hle:k.length≤t.Length.toNat
      · have h3:=z5p k k.reverse (by simp) hk9;have h4:10^k.length≤10^t.Length.toNat:=zdj hle;omega
      · have e:k=k.take (k.length-t.Length.toNat)++k.drop (k.length-t.Length.toNat):=(List.take_append_drop _ _).symm;have hz:zcy (k.take (k.length-t.Length.toNat))=0:=ztz _ fun d hd=>by
         obtain⟨i,hi,e⟩:=List.getElem_of_mem hd;rw [lnt]at hi;obtain⟨d',e2,_,_,h5⟩:=hg i (by omega);rw [List.getElem_take]at e;rw [lge (by omega),e]at e2;cases e2;exact h5 (by omega)
        have h3:=z5p (k.drop (k.length-t.Length.toNat)) _ (by rw [List.reverse_reverse]) fun d hd=>hk9 d (List.mem_of_mem_drop hd);have h5:(k.drop (k.length-t.Length.toNat)).length=t.Length.toNat:=by rw [List.length_drop];omega
        rw [h5]at h3;rw [e,zxt,hz,Int.zero_mul,Int.zero_add];exact h3
     split at h<;>cases h<;>omega
structure InsV (m:zJ) (c:zH) (x:zB) (u:zQ):Prop where
 r:u.R=true→0≤x.R∧x.R<m.Registers
 a:u.A=true→0≤x.A∧x.A<m.Registers
 b:u.B=true→0≤x.B∧x.B<m.Registers
 ty1:u.zF=1→zij x.zF
 ty2:u.zF=2→zb3 x.zF=0∧x.zF.Kind=0
 ty3:u.zF=3→zb3 x.zF=0
 se1:u.Second=1→zij x.Second
 se2:u.Second=2→zb3 x.Second=0∧x.Second.Kind=0
 tg:u.Target=true→0≤x.Target∧x.Target<(c.zA.length:Int)
 ma:u.Mask=true→1≤x.Mask∧x.Mask≤7
 pt:u.Pointer=true→zev c.Storage x.Pointer=true
 sr:u.Source=true→zev c.Storage x.Source=true
 pl:u.Place=true→zcn c.Storage x.Place (szE (zdp x))=true
 fr:u.From=true→zcn c.Storage x.From (szE x.Second)=true
 ca:u.zM=true→0≤x.zM∧x.zM≤4
 nu:zew x.Number
 tx:x.Text.size≤256
 ot:x.Other.size≤256
 is:x.zP=true→x.Op=4
theorem zadv {t:DataType} (h:zdr t 1=0):zij t:=by
 unfold zdr at h
 rw [ifn (by decide)]at h
 by_cases h0:zb3 t=0
 · rw [ifp h0]at h;split at h
   · cases h
   · rename_i h1;refine⟨h0,?_⟩;refine cbc fun h2=>h1 (.inl ⟨rfl,h2⟩)
 · rw [ifn h0]at h;exact absurd h h0
theorem zadu {t:DataType} (h:zdr t 2=0):zb3 t=0∧t.Kind=0:=by
 unfold zdr at h
 rw [ifn (by decide)]at h
 by_cases h0:zb3 t=0
 · rw [ifp h0]at h;split at h
   · cases h
   · rename_i h1;refine⟨h0,?_⟩;refine cbc fun h2=>h1 (.inr (.inl ⟨rfl,h2⟩))
 · rw [ifn h0]at h;exact absurd h h0
theorem zad3 {m:zJ} {c:zH} {x:zB} (h:zmr m c x=0):(0≤x.Op∧x.Op≤26)∧∃u,ze3 x=some u∧InsV m c x u:=by
 unfold zmr at h
 by_cases hop:inB x.Op 0 26=true
 · refine⟨zaq.1 hop,?_⟩;obtain⟨f,u,hf,hu,ag,_⟩:=zxs x hop;rw [ifp hop,hu]at h;have h':zvz m c x u=0:=h;unfold zvz at h';cases he:zm9 x u with
   | true=>rw [he]at h';cases h'
   | false=>
    rw [he]at h';simp only [cfa]at h';cases hl:zpe m x with
    | true=>rw [hl]at h';cases h'
    | false=>
     rw [hl]at h';simp only [cfa]at h'
     by_cases h1:zdr x.zF u.zF=0
     · by_cases h2:zdr x.Second u.Second=0
       · rw [ifn,ifn]at h';cases hr:zlz m c x u with
         | true=>rw [hr]at h';simp at h'
         | false=>
          rw [hr]at h';simp only [cfa]at h'
          by_cases h3:zq8 x.Number=0
          · rw [ifn]at h';cases hlg:zqi x with
            | true=>rw [hlg]at h';cases h'
            | false=>
             unfold zlz at hr;simp only [Bool.or_eq_false_iff]at hr;obtain⟨r1,r2,r3,r4,r5,r6,r7,r8⟩:=hr;rw [List.any_eq_false]at r1;have reg:∀i,i∈zm2 x u→0≤i∧i<m.Registers:=fun i hi=>by
              have:=r1 i hi;unfold zgi at this;have h4:inB i 0 (m.Registers-1)=true:=by simpa using this
              have:=zaq.1 h4;omega
             have andF:∀{p q:Bool},(p&& !q)=false→p=true→q=true:=fun {p q} h hp=>by subst hp;simpa using h
             unfold zqi at hlg;simp only [Bool.or_eq_false_iff,decide_eq_false_iff_not]at hlg;refine⟨u,hu,?_⟩;exact {
              r:=fun hx=>reg _ (by unfold zm2;rw [hx];simp)
              a:=fun hx=>reg _ (by unfold zm2;rw [hx];simp)
              b:=fun hx=>reg _ (by unfold zm2;rw [hx];simp)
              ty1:=fun hx=>zadv (by rw [hx]at h1;exact h1)
              ty2:=fun hx=>zadu (by rw [hx]at h1;exact h1)
              ty3:=fun hx=>znh h1 (by rw [hx];decide)
              se1:=fun hx=>zadv (by rw [hx]at h2;exact h2)
              se2:=fun hx=>zadu (by rw [hx]at h2;exact h2)
              tg:=fun hx=>by have:=zaq.1 (andF r2 hx);omega
              ma:=fun hx=>zaq.1 (andF r3 hx)
              pt:=fun hx=>andF r4 hx
              sr:=fun hx=>andF r5 hx
              pl:=fun hx=>andF r6 hx
              fr:=fun hx=>andF r7 hx
              ca:=fun hx=>zaq.1 (andF r8 hx)
              nu:=zyh.1 h3
              tx:=by omega
              ot:=by omega
              is:=(zt1 he).1}
          · rw [ifp h3]at h';exact absurd h' h3
       · rw [ifn,ifp h2]at h';exact absurd h' h2
     · rw [ifp h1]at h';exact absurd h' h1
 · rw [ifn hop]at h;cases h
structure CodeV (m:zJ) (c:zH):Prop where
 m1:2≤m.Registers
 m2:m.Registers≤8
 sto:zi1 c.Storage
 len:c.zA.length≤240
 pos:0<c.zA.length
 traps:c.zS.length≤40
 ins:∀x∈c.zA,zmr m c x=0
 trap:∀t∈c.zS,zo2 c t=true
structure StV (m:zJ) (c:zH) (s:zC):Prop where
 regs:(s.Registers.length:Int)=m.Registers
 nums:∀r∈s.Registers,zew r
 cnd:s.Condition=0∨s.Condition=1∨s.Condition=2∨s.Condition=4
 sto:zi1 s.Storage
 size:s.Storage.Bytes.size=c.Storage.Bytes.size
 at0:0≤s.At
 at1:s.At<(c.zA.length:Int)
 stk:s.Stack.length≤6
 calls:∀i∈s.Stack,(0≤i∧i<(c.zA.length:Int))∧∃x,c.zA[i.toNat]?=some x∧x.Op=18
 lines:s.Lines.length≤40
 long:∀l∈s.Lines,l.size≤256
 st0:0≤s.Status
 st1:s.Status≤3
 ex0:0≤s.Exception
 ex1:s.Exception≤999
 mk0:0≤s.Marks
 mk1:s.Marks≤300
 sp0:0≤s.Steps
 sp1:s.Steps≤3000
def zfp (s:Storage) (p:zN) (n:Int):Except Int Int:=
 if p.Based=true then(match ldV s p.Pointer with|none=> .error 4|some o=>if o+p.Offset>(s.Bytes.size:Int)-n then .error 5 else .ok (o+p.Offset))else .ok p.Offset
def ziu (s:Storage) (p:zN) (t:DataType):Except Int ByteArray:=
 match zfp s p (szE t)with| .error e=> .error e| .ok a=> .ok (s.Bytes.extract a.toNat (a+szE t).toNat)
def zq7 (s:Storage) (p:zN) (t:DataType):Except Int Number:=
 match ziu s p t with| .error e=> .error e| .ok b=>match zj4 t b with|none=> .error 1|some n=> .ok ⟨n,t.Scale⟩
theorem zim (s:zC) (c:zH) (b:Bool) (n:Int) (hn:n≠0):zad ⟨s,c,0⟩ b n=some (!b,⟨s,c,cond b n 0⟩):=by
 unfold zad
 cases b
 · rfl
 · simp only [bst,ctr,obs,zbc,dcf hn];rfl
theorem zrp (N:Nat) (hN:2000<N) (s:zC) (c:zH) (h:zi1 s.Storage) {a:Int} (ha:zev s.Storage a=true):
 zc2 N ⟨s,c,0⟩ a=some (match ldV s.Storage a with|some o=>(zky o,true,⟨s,c,0⟩)|none=>(z0p,false,⟨s,c,4⟩)):=by
 unfold zc2
 simp only []
 rw [zaed N hN h ha]
 cases ldV s.Storage a with
 | none=>simp only [obs];rw [zim _ _ _ _ (by decide)];rfl
 | some o=>simp only [obs];rw [zim _ _ _ _ (by decide)];rfl
theorem zos {s t:Storage} (h:s.Bytes.size=t.Bytes.size) (a:Int):zev s a=zev t a:=by unfold zev;rw [h]
theorem ze5 {s t:Storage} (h:s.Bytes.size=t.Bytes.size) (p:zN) (n:Int):zcn s p n=zcn t p n:=by unfold zcn;rw [h,zos h]
theorem ztk (N:Nat) (hN:2000<N) (s:zC) (c:zH) (h:zi1 s.Storage) {p:zN} {n:Int} (hp:zcn s.Storage p n=true) (hn:0<n) (hn2:n≤256):
 (∃e j k,(e=4∨e=5)∧zfp s.Storage p n= .error e∧zdy N ⟨s,c,0⟩ p n=some (j,false,⟨s,c,e⟩)∧zbw N s p n=some (k,e))∨
 ∃a,zfp s.Storage p n= .ok a∧zdy N ⟨s,c,0⟩ p n=some (a,true,⟨s,c,0⟩)∧zbw N s p n=some (a,0)∧0≤a∧a+n≤(s.Storage.Bytes.size:Int):=by
 have hl:=h.le
 unfold zcn at hp
 unfold zfp zdy zbw
 try simp only [eS]
 by_cases hb:p.Based=true
 · rw [ifp hb]at hp;rw [Bool.and_eq_true]at hp;obtain⟨hp1,hp2⟩:=hp;have hp3:=zaq.1 hp2;rw [ifp hb,hb];simp only [bnt,cfa];rw [zrp N hN s c h hp1,zuc N hN h hp1];cases hld:ldV s.Storage p.Pointer with
   | none=>
    left;exact⟨4,0,0,.inl rfl,rfl,rfl,rfl⟩
   | some o=>
    have ho:=zs6 h hld;simp only [obs,bnt,cfa,bsf];rw [zim _ _ _ _ (by decide)];simp only [obs];rw [show(zky o).Address.Offset=o from rfl,w6e (n:=o+p.Offset),w6e (n:=(s.Storage.Bytes.size:Int)-n)];unfold zhq;rw [zg2,zg2,w6e (n:=(s.Storage.Bytes.size:Int)-(o+p.Offset))];simp only [obs]
    by_cases hgt:o+p.Offset>(s.Storage.Bytes.size:Int)-n
    · left;refine⟨5,o+p.Offset,0,.inr rfl,?_,?_,?_⟩
      · show(if o+p.Offset>(s.Storage.Bytes.size:Int)-n then(Except.error 5:Except Int Int)else .ok (o+p.Offset))=_;rw [ifp hgt]
      · rw [dct hgt];rfl
      · by_cases h1:inB (o+p.Offset) 0 (s.Storage.Bytes.size:Int)=true
        · rw [h1,ctr];rw [show inB n 0 ((s.Storage.Bytes.size:Int)-(o+p.Offset))=false by
           cases hh:inB n 0 ((s.Storage.Bytes.size:Int)-(o+p.Offset))with
           | false=>rfl
           | true=>have:=zaq.1 hh;omega]
          rfl
        · rw [show inB (o+p.Offset) 0 (s.Storage.Bytes.size:Int)=false by simpa using h1];rfl
    · right;refine⟨o+p.Offset,?_,?_,?_,by omega,by omega⟩
      · show(if o+p.Offset>(s.Storage.Bytes.size:Int)-n then(Except.error 5:Except Int Int)else .ok (o+p.Offset))=_;rw [ifn hgt]
      · rw [dcf hgt];rfl
      · rw [show inB (o+p.Offset) 0 (s.Storage.Bytes.size:Int)=true from zaq.2 ⟨by omega,by omega⟩,ctr,show inB n 0 ((s.Storage.Bytes.size:Int)-(o+p.Offset))=true from zaq.2 ⟨by omega,by omega⟩];rfl
 · have hb':p.Based=false:=by simpa using hb
   rw [ifn hb]at hp;have hp3:=zaq.1 hp;rw [ifn hb,hb'];right;exact⟨p.Offset,rfl,rfl,rfl,by omega,by omega⟩
theorem zor (N:Nat) (hN:2000<N) (s:zC) (c:zH) (h:zi1 s.Storage) {p:zN} {t:DataType} (ht:zb3 t=0) (hp:zcn s.Storage p (szE t)=true):
 (∃e b k,(e=4∨e=5)∧ziu s.Storage p t= .error e∧zba N ⟨s,c,0⟩ p t=some (b,false,⟨s,c,e⟩)∧zdh N s p t=some (k,e))∨
 ∃b,ziu s.Storage p t= .ok b∧zba N ⟨s,c,0⟩ p t=some (b,true,⟨s,c,0⟩)∧zdh N s p t=some (b,0)∧(b.size:Int)=szE t:=by
 have hsz:=zh3 ht
 have hl:=h.le
 unfold ziu zba zdh
 try simp only [eS,eD,eP]
 rw [z2j N (by omega) ht,zjk ht]
 simp only [obs]
 have eH:(⟨s.Registers,s.Condition,s.Storage,s.At,s.Stack,s.Lines,s.Status,s.Exception,s.Marks,s.Steps⟩:zC)=s:=rfl
 try rw [eH]
 rcases ztk N hN s c h hp hsz.1 hsz.2 with⟨e,j,k,he,h1,h2,h3⟩|⟨a,h1,h2,h3,h4,h5⟩
 · left;rw [h1,h2,h3];refine⟨e,⟨#[]⟩,⟨#[]⟩,he,rfl,rfl,?_⟩;rcases he with rfl|rfl<;>rfl
 · right;rw [h1,h2,h3];simp only [obs,bnt,cfa,bsf];rw [w6e,ifp,ifp,ifp,ifp];refine⟨_,rfl,rfl,rfl,?_⟩;rw [zdf _ _ _ (by omega) (by omega)];omega
theorem z47 (N:Nat) (hN:2000<N) (s:zC) (c:zH) (h:zi1 s.Storage) {p:zN} {t:DataType} (ht:zij t) (hp:zcn s.Storage p (szE t)=true):
 (∃e b k,(e=4∨e=5∨e=1)∧zq7 s.Storage p t= .error e∧zd7 N ⟨s,c,0⟩ p t=some (b,false,⟨s,c,e⟩)∧zgv N s p t=some (k,e))∨
 ∃n,zq7 s.Storage p t= .ok n∧zd7 N ⟨s,c,0⟩ p t=some (n,true,⟨s,c,0⟩)∧zgv N s p t=some (n,0)∧zew n:=by
 unfold zq7 zd7 zgv
 rcases zor N hN s c h ht.1 hp with⟨e,b,k,he,h1,h2,h3⟩|⟨b,h1,h2,h3,h4⟩
 · left;rw [h1,h2,h3];refine⟨e,⟨0,0⟩,⟨0,0⟩,by omega,rfl,rfl,?_⟩;rcases he with rfl|rfl<;>rfl
 · obtain⟨v1,a1,e1,g1,g2⟩:=zaa4 N hN ht h4;obtain⟨v2,a2,e2,g3,g4⟩:=zw8 N hN ht h4;rw [h1,h2,h3];simp only [obs,bnt,cfa,bsf];rw [g1,g3];simp only [obs];rw [zim _ _ _ _ (by decide)];simp only [obs];have hbound:∀n,zj4 t b=some n→-((10^t.Length.toNat:Nat):Int)<n∧n<((10^t.Length.toNat:Nat):Int):=fun n hn=>z6d ht h4 hn;cases hdv:zj4 t b with
   | none=>
    rw [hdv]at g2 g4;simp only []at g2 g4;left;refine⟨1,⟨v1.N,t.Scale⟩,⟨0,0⟩,by omega,rfl,?_,?_⟩
    · rw [zdq,dct g2];rfl
    · rw [zdq,dct g4];rfl
   | some n=>
    rw [hdv]at g2 g4;simp only []at g2 g4;right;have hb:=hbound n hdv;obtain⟨⟨l1,l2⟩,l3,l4⟩:=zgb ht;have hpw:10^t.Length.toNat≤10^15:=zdj (by omega);refine⟨⟨n,t.Scale⟩,rfl,?_,?_,⟨⟨?_,?_⟩,l3,?_⟩⟩
    · rw [g2.2,g2.1];rfl
    · rw [g4.2,g4.1];rfl
    · show-999999999999999≤n;omega
    · show n≤999999999999999;omega
    · show t.Scale≤15;omega
def updR (s:zC) (i:Int) (n:Number):zC:=⟨s.Registers.set i.toNat n,s.Condition,s.Storage,s.At,s.Stack,s.Lines,s.Status,s.Exception,s.Marks,s.Steps⟩
def updS (s:zC) (t:Storage):zC:=⟨s.Registers,s.Condition,t,s.At,s.Stack,s.Lines,s.Status,s.Exception,s.Marks,s.Steps⟩
def updC (s:zC) (k:Int):zC:=⟨s.Registers,k,s.Storage,s.At,s.Stack,s.Lines,s.Status,s.Exception,s.Marks,s.Steps⟩
def updL (s:zC) (l:List ByteArray):zC:=⟨s.Registers,s.Condition,s.Storage,s.At,s.Stack,l,s.Status,s.Exception,s.Marks,s.Steps⟩
def updT (s:zC) (k:Int):zC:=⟨s.Registers,s.Condition,s.Storage,s.At,s.Stack,s.Lines,k,s.Exception,s.Marks,s.Steps⟩
def updK (s:zC) (l:List Int):zC:=⟨s.Registers,s.Condition,s.Storage,s.At,l,s.Lines,s.Status,s.Exception,s.Marks,s.Steps⟩
def updM (s:zC) (k:Int):zC:=⟨s.Registers,s.Condition,s.Storage,s.At,s.Stack,s.Lines,s.Status,s.Exception,k,s.Steps⟩
def rg (s:zC) (i:Int):Number:=s.Registers.getD i.toNat ⟨0,0⟩
def zn1 (s:zC) (a b:Int):Int:=zqr (z43 (zbj (rg s a) (zag (rg s a) (rg s b))) (zbj (rg s b) (zag (rg s a) (rg s b))))
def zlc (s:zC) (l:ByteArray):Except Int (Int × zC):=if s.Lines.length=40 then .ok (s.At+1,updT s 3)else .ok (s.At+1,updL s (s.Lines++[l]))
def zai (s:zC) (x:zB):Except Int (Int × zC):=
 match x.Op.toNat with
 | 0=>match zq7 s.Storage x.Place x.zF with| .error e=> .error e| .ok n=> .ok (s.At+1,updR s x.R n)
 | 1=>if(zif (rg s x.R) x.zF x.Half).2≠0 then .error 2 else match zfp s.Storage x.Place (szE x.zF)with| .error e=> .error e| .ok a=> .ok (s.At+1,updS s (wrV s.Storage a.toNat (zn0 x.zF (zif (rg s x.R) x.zF x.Half).1.N)))
 | 2=> .ok (s.At+1,updR s x.R x.Number)
 | 3=> .ok (s.At+1,updR s x.R (rg s x.A))
 | 4=>match(if x.zP=true then zq7 s.Storage x.Place x.Second else .ok (rg s x.B))with
  | .error e=> .error e
  | .ok b=>if(zfo x.zM (rg s x.A) b x.zF false).2=20 then .error 3 else if(zfo x.zM (rg s x.A) b x.zF false).2≠0 then .error 2 else .ok (s.At+1,updR s x.R ⟨(zfo x.zM (rg s x.A) b x.zF false).1.N,x.zF.Scale⟩)
 | 5=> .ok (s.At+1,updC s (zn1 s x.A x.B))
 | 6=> .ok (cond (zj .i64 s.Condition x.Mask !=0) x.Target (s.At+1),s)
 | 7=> .ok (cond (zj .i64 (zn1 s x.A x.B) x.Mask !=0) x.Target (s.At+1),s)
 | 8=> .ok (x.Target,s)
 | 9=>match ziu s.Storage x.From x.Second with
  | .error e=> .error e
  | .ok b=>match zfp s.Storage x.Place (szE x.zF)with| .error e=> .error e| .ok a=> .ok (s.At+1,updS s (wrV s.Storage a.toNat (zkc b x.zF.Length.toNat)))
 | 10=>match zfp s.Storage x.Place (szE x.zF)with| .error e=> .error e| .ok a=> .ok (s.At+1,updS s (wrV s.Storage a.toNat (zkc x.Text x.zF.Length.toNat)))
 | 11=>match ziu s.Storage x.Place x.zF with
  | .error e=> .error e
  | .ok a=>match ziu s.Storage x.From x.Second with| .error e=> .error e| .ok b=> .ok (s.At+1,updC s (zl5 a b))
 | 12=>match ziu s.Storage x.Place x.zF with| .error e=> .error e| .ok a=> .ok (s.At+1,updC s (zl5 a x.Text))
 | 13=> .ok (s.At+1,updC s (zl5 x.Text x.Other))
 | 14=>match zfp s.Storage x.Place (szE x.zF)with| .error e=> .error e| .ok a=> .ok (s.At+1,updS s (stV s.Storage x.Pointer.toNat a.toNat))
 | 15=>match ldV s.Storage x.Source with|none=> .error 4|some o=> .ok (s.At+1,updS s (stV s.Storage x.Pointer.toNat o.toNat))
 | 16=>match ldV s.Storage x.Pointer with
  | none=> .error 4
  | some o=>if inB (o+zfq (rg s x.R)) 0 16777215=true then .ok (s.At+1,updS s (stV s.Storage x.Pointer.toNat (o+zfq (rg s x.R)).toNat))else .error 5
 | 17=>match ldV s.Storage x.Pointer with|none=> .error 4|some _=> .ok (s.At+1,s)
 | 18=>if 6≤s.Stack.length then .error 6 else .ok (x.Target,updK s (s.Stack++[s.At]))
 | 19=>if s.Stack.length=0 then .ok (s.At,updT s 1)else .ok (s.Stack.getD (s.Stack.length-1) 0+1,updK s (s.Stack.take (s.Stack.length-1)))
 | 20=>if inB (zfq (rg s x.R)) 100 999=true then .error (zfq (rg s x.R))else .error 2
 | 21=> .ok (s.At+1,updR s x.R ⟨s.Exception,0⟩)
 | 22=>zlc s (zrj (rg s x.R))
 | 23=>match ziu s.Storage x.Place x.zF with| .error e=> .error e| .ok b=>zlc s b
 | 24=>zlc s x.Text
 | 25=>if s.Marks=300 then .ok (s.At+1,updT s 3)else .ok (s.At+1,updM s (s.Marks+1))
 | _=> .ok (s.At+1,updT s 1)
section
variable {m:zJ} {c:zH} {s:zC}
theorem StV.updR (h:StV m c s) {i:Int} {n:Number} (hn:zew n):StV m c (updR s i n):={
 regs:=by show((s.Registers.set i.toNat n).length:Int)=_;rw [List.length_set];exact h.regs
 nums:=fun r hr=>by
  rcases List.mem_or_eq_of_mem_set (show r∈s.Registers.set i.toNat n from hr)with h1|h1
  · exact h.nums r h1
  · rw [h1];exact hn
 cnd:=h.cnd,sto:=h.sto,size:=h.size,at0:=h.at0,at1:=h.at1,stk:=h.stk,calls:=h.calls,lines:=h.lines,long:=h.long,st0:=h.st0,st1:=h.st1,ex0:=h.ex0,ex1:=h.ex1,mk0:=h.mk0,mk1:=h.mk1,sp0:=h.sp0,sp1:=h.sp1}
theorem StV.updS (h:StV m c s) {t:Storage} (ht:zi1 t) (hz:t.Bytes.size=s.Storage.Bytes.size):StV m c (updS s t):={
 regs:=h.regs,nums:=h.nums,cnd:=h.cnd,sto:=ht,size:=hz.trans h.size,at0:=h.at0,at1:=h.at1,stk:=h.stk,calls:=h.calls,lines:=h.lines,long:=h.long,st0:=h.st0,st1:=h.st1,ex0:=h.ex0,ex1:=h.ex1,mk0:=h.mk0,mk1:=h.mk1,sp0:=h.sp0,sp1:=h.sp1}
theorem StV.updC (h:StV m c s) {k:Int} (hk:k=1∨k=2∨k=4):StV m c (updC s k):={
 regs:=h.regs,nums:=h.nums,cnd:= .inr hk,sto:=h.sto,size:=h.size,at0:=h.at0,at1:=h.at1,stk:=h.stk,calls:=h.calls,lines:=h.lines,long:=h.long,st0:=h.st0,st1:=h.st1,ex0:=h.ex0,ex1:=h.ex1,mk0:=h.mk0,mk1:=h.mk1,sp0:=h.sp0,sp1:=h.sp1}
theorem StV.updL (h:StV m c s) {l:ByteArray} (h1:s.Lines.length<40) (h2:l.size≤256):StV m c (updL s (s.Lines++[l])):={
 regs:=h.regs,nums:=h.nums,cnd:=h.cnd,sto:=h.sto,size:=h.size,at0:=h.at0,at1:=h.at1,stk:=h.stk,calls:=h.calls
 lines:=by show(s.Lines++[l]).length≤40;rw [lna,lns];omega
 long:=fun y hy=>by
  rcases List.mem_append.1 (show y∈s.Lines++[l]from hy)with h3|h3
  · exact h.long y h3
  · rw [List.mem_singleton.1 h3];exact h2
 st0:=h.st0,st1:=h.st1,ex0:=h.ex0,ex1:=h.ex1,mk0:=h.mk0,mk1:=h.mk1,sp0:=h.sp0,sp1:=h.sp1}
theorem StV.updT (h:StV m c s) {k:Int} (h1:0≤k) (h2:k≤3):StV m c (updT s k):={
 regs:=h.regs,nums:=h.nums,cnd:=h.cnd,sto:=h.sto,size:=h.size,at0:=h.at0,at1:=h.at1,stk:=h.stk,calls:=h.calls,lines:=h.lines,long:=h.long,st0:=h1,st1:=h2,ex0:=h.ex0,ex1:=h.ex1,mk0:=h.mk0,mk1:=h.mk1,sp0:=h.sp0,sp1:=h.sp1}
theorem StV.updK (h:StV m c s) {l:List Int} (h1:l.length≤6) (h2:∀i∈l,(0≤i∧i<(c.zA.length:Int))∧∃x,c.zA[i.toNat]?=some x∧x.Op=18):StV m c (updK s l):={
 regs:=h.regs,nums:=h.nums,cnd:=h.cnd,sto:=h.sto,size:=h.size,at0:=h.at0,at1:=h.at1,stk:=h1,calls:=h2,lines:=h.lines,long:=h.long,st0:=h.st0,st1:=h.st1,ex0:=h.ex0,ex1:=h.ex1,mk0:=h.mk0,mk1:=h.mk1,sp0:=h.sp0,sp1:=h.sp1}
theorem StV.updM (h:StV m c s) {k:Int} (h1:0≤k) (h2:k≤300):StV m c (updM s k):={
 regs:=h.regs,nums:=h.nums,cnd:=h.cnd,sto:=h.sto,size:=h.size,at0:=h.at0,at1:=h.at1,stk:=h.stk,calls:=h.calls,lines:=h.lines,long:=h.long,st0:=h.st0,st1:=h.st1,ex0:=h.ex0,ex1:=h.ex1,mk0:=h1,mk1:=h2,sp0:=h.sp0,sp1:=h.sp1}
theorem zgh (h:StV m c s) {i:Int} (hi:0≤i∧i<m.Registers):0≤i∧i<(s.Registers.length:Int)∧s.Registers[i.toNat]?=some (rg s i)∧idx s.Registers i=some (rg s i)∧zew (rg s i):=by
 have hr:=h.regs
 have hx:s.Registers[i.toNat]?=some (rg s i):=by
  unfold rg;rw [gdd,lge (by omega)];rfl
 refine⟨hi.1,by omega,hx,?_,h.nums _ (lmg hx)⟩
 unfold idx
 rw [ifp hi.1,hx]
theorem zqq (o:Int):zqr o=1∨zqr o=2∨zqr o=4:=by
 unfold zqr
 repeat' split
 all_goals simp
theorem zxp (h:StV m c s) (hm:m.Registers≤8) {i:Int} (hi:0≤i∧i<m.Registers) (n:Number) (e:Int):za2 ⟨s,c,e⟩ i n=some ⟨updR s i n,c,e⟩:=by
 obtain⟨h1,h2,h3,_⟩:=zgh h hi
 have hr:=h.regs
 unfold za2 zdk
 simp only []
 rw [zbe (by omega),ctr,obs,ifp h1,ifp h2,h3]
 rfl
theorem z28 (N:Nat) (hN:300<N) (h:StV m c s) (x:zB) (ha:0≤x.A∧x.A<m.Registers) (hb:0≤x.B∧x.B<m.Registers) (e:Int):zcz N ⟨s,c,e⟩ x=some (zn1 s x.A x.B):=by
 obtain⟨_,_,_,a4,a5⟩:=zgh h ha
 obtain⟨_,_,_,b4,b5⟩:=zgh h hb
 unfold zcz
 simp only []
 rw [a4,b4]
 simp only [obs]
 rw [z68 N hN a5 b5]
 simp only [obs]
 rw [zadb]
 rfl
theorem z3m (x y:Int):zj .i64 x y=zj .i64 y x:=by unfold zj;rw [BitVec.and_comm]
def zcr (N:Nat) (m:zJ) (c:zH) (s:zC) (x:zB):Prop:=
 (∃e nx ny t,zai s x= .error e∧(1≤e∧e≤999)∧zf N ⟨s,c,0⟩ x=some (nx,⟨s,c,e⟩)∧ze N c s=some (ny,e,t))∨
 ∃n k t,zai s x= .ok (n,t)∧zf N ⟨s,c,0⟩ x=some (n,⟨t,c,0⟩)∧ze N c s=some (k,0,t)∧(t.Status=0→k=n∧0≤n∧n≤(c.zA.length:Int))∧StV m c t∧t.At=s.At∧t.Steps=s.Steps∧t.Exception=s.Exception
theorem zf1 {x:zB} (hc:CodeV m c) (hx:x∈c.zA) {k:Int} (hop:x.Op=k) {U:zQ} (hU:z8g k x.zP=some U):InsV m c x U:=by
 obtain⟨_,u,h1,h2⟩:=zad3 (hc.ins x hx)
 rw [z9x,hop,hU]at h1
 cases h1
 exact h2
end
section
variable {m:zJ} {c:zH} {s:zC}
theorem znn {b:Bool} {p q:Nat} {t:DataType} {half:Bool} (h:(zi6 b p q t half).2=0): -((10^t.Length.toNat:Nat):Int)<(zi6 b p q t half).1.N∧(zi6 b p q t half).1.N<((10^t.Length.toNat:Nat):Int):=by
 unfold zi6 at h⊢
 have:=zee t.Length.toNat
 generalize (p*10^t.Scale.toNat/q+cond (half&&decide (q≤p*10^t.Scale.toNat%q+p*10^t.Scale.toNat%q)) 1 0)=Q at*
 generalize 10^t.Length.toNat=T at*
 split at h
 · cases h
 · rename_i hn;rw [ifn hn];cases b
   · show-(T:Int)<(Q:Int)∧(Q:Int)<T;omega
   · show-(T:Int)< -(Q:Int)∧-(Q:Int)<T;omega
theorem zagr (b:Bool) (p q:Nat) (t:DataType) (half:Bool):(zi6 b p q t half).1=⟨(zi6 b p q t half).1.N,⟨#[]⟩⟩:=by
 unfold zi6
 split<;>rfl
theorem zafl {x:Number} {t:DataType} {half:Bool} (h:(zif x t half).2=0):(zi6 (decide (x.N<0)) x.N.natAbs (10^x.Scale.toNat) t half).2=0:=h
theorem zahw (x:Number) (t:DataType) (half:Bool):(zif x t half).1=⟨(zif x t half).1.N,⟨#[]⟩⟩:=zagr _ _ _ _ _
theorem ex_0 (s:zC) {x:zB} (hop:x.Op=0):zai s x=(match zq7 s.Storage x.Place x.zF with| .error e=> .error e| .ok n=> .ok (s.At+1,updR s x.R n)):=by
 cases x;cases hop;rfl
theorem hx_0 (N:Nat) (M:zG) {x:zB} (hop:x.Op=0):zf N M x=(zd7 N M x.Place x.zF).bind fun r1=>cond r1.2.1 ((za2 r1.2.2 x.R r1.1).bind fun r=>some (w6 (r.zC.At+1),r)) (some (w6 (r1.2.2.zC.At+1),r1.2.2)):=by
 cases x;cases hop;rfl
theorem rx_0 (N:Nat) {x:zB} (hop:x.Op=0) (hi:idx c.zA s.At=some x):ze N c s=((zgv N s x.Place x.zF).bind fun r1=>cond (r1.2 !=0) (some (r1.2,s)) (if 0≤x.R then(if x.R<(s.Registers.length:Int)then((s.Registers[x.R.toNat]?).bind fun _=>some (0,updR s x.R r1.1))else none)else none)).bind fun r=>some (w6 (s.At+1),r.1,r.2):=by
 unfold ze
 rw [hi,obs]
 clear hi
 cases x;cases hop;rfl
theorem zah9 (N:Nat) (hN:20000<N) (hc:CodeV m c) (hs:StV m c s) {x:zB} (hx:c.zA[s.At.toNat]?=some x) (hop:x.Op=0):zcr N m c s x:=by
 have iv:=zf1 hc (lmg hx) hop (U:=⟨true,false,false,true,false,false,false,false,false,false,false,false,false,false,1,0⟩) rfl
 have hi:idx c.zA s.At=some x:=by unfold idx;rw [ifp hs.at0,hx]
 have m8:=hc.m2
 have a0:=hs.at0
 have a1:=hs.at1
 have n240:=hc.len
 have wn1:w6 (s.At+1)=s.At+1:=w6e
 unfold zcr
 rw [ex_0 s hop,hx_0 N _ hop,rx_0 N hop hi]
 obtain⟨g1,g2,g3,g4,g5⟩:=zgh hs (iv.r rfl)
 have hp:zcn s.Storage x.Place (szE x.zF)=true:=by rw [ze5 hs.size];have:=iv.pl rfl;unfold zdp at this;rw [ifn]at this;exact this
 rcases z47 N (by omega) s c hs.sto (iv.ty1 rfl) hp with⟨e,b,k,he,h1,h2,h3⟩|⟨n,h1,h2,h3,h4⟩
 · rw [h1,h2,h3];refine .inl ⟨e,_,w6 (s.At+1),s,rfl,by omega,rfl,?_⟩;rcases he with rfl|rfl|rfl<;>rfl
 · rw [h1,h2,h3];refine .inr ⟨_,_,_,rfl,?_,?_,fun _=>⟨rfl,by omega,by omega⟩,hs.updR h4,rfl,rfl,rfl⟩
   · simp only [obs,ctr];rw [zxp hs m8 (iv.r rfl)];show some (w6 (s.At+1),_)=_;rw [wn1]
   · simp only [obs,bsf,cfa];rw [ifp g1,ifp g2,g3];show some (w6 (s.At+1),_)=_;rw [wn1]
theorem ex_1 (s:zC) {x:zB} (hop:x.Op=1):zai s x=(if(zif (rg s x.R) x.zF x.Half).2≠0 then .error 2 else match zfp s.Storage x.Place (szE x.zF)with| .error e=> .error e| .ok a=> .ok (s.At+1,updS s (wrV s.Storage a.toNat (zn0 x.zF (zif (rg s x.R) x.zF x.Half).1.N)))):=by
 cases x;cases hop;rfl
theorem hx_1 (N:Nat) (M:zG) {x:zB} (hop:x.Op=1):zf N M x=(zk3 N M x).bind fun r=>some (w6 (r.zC.At+1),r):=by
 cases x;cases hop;rfl
theorem rx_1 (N:Nat) {x:zB} (hop:x.Op=1) (hi:idx c.zA s.At=some x):ze N c s=(if 0≤x.R then(if x.R<(s.Registers.length:Int)then((s.Registers[x.R.toNat]?).bind fun x3=>(zgp N x3 x.zF x.Half).bind fun r4=>
 cond (r4.2 !=0) (some (2,s)) ((zaw x.zF).bind fun r5=>(zbw N s x.Place r5).bind fun r6=>cond (r6.2 !=0) (some (r6.2,s))
 ((za8 N x.zF r4.1).bind fun r7=>(zbi N s.Storage r6.1 r7).bind fun r8=>some (0,updS s r8))))else none)else none).bind fun r=>some (w6 (s.At+1),r.1,r.2):=by
 unfold ze
 rw [hi,obs]
 clear hi
 cases x;cases hop;rfl
theorem zah8 (N:Nat) (hN:20000<N) (hc:CodeV m c) (hs:StV m c s) {x:zB} (hx:c.zA[s.At.toNat]?=some x) (hop:x.Op=1):zcr N m c s x:=by
 have iv:=zf1 hc (lmg hx) hop (U:=⟨true,false,false,true,false,true,false,false,false,false,false,false,false,false,1,0⟩) rfl
 have hi:idx c.zA s.At=some x:=by unfold idx;rw [ifp hs.at0,hx]
 have m8:=hc.m2
 have a0:=hs.at0
 have a1:=hs.at1
 have n240:=hc.len
 have wn1:w6 (s.At+1)=s.At+1:=w6e
 unfold zcr
 rw [ex_1 s hop,hx_1 N _ hop,rx_1 N hop hi]
 obtain⟨g1,g2,g3,g4,g5⟩:=zgh hs (iv.r rfl)
 have ht:=iv.ty1 rfl
 have hp:zcn s.Storage x.Place (szE x.zF)=true:=by rw [ze5 hs.size];have:=iv.pl rfl;unfold zdp at this;rw [ifn]at this;exact this
 have hsz:=zh3 ht.1
 unfold zk3
 rw [ifp g1,ifp g2,g3]
 simp only []
 rw [g4]
 simp only [obs]
 rw [zae0 N (by omega) g5 ht,z7p N (by omega) g5 ht]
 simp only [obs]
 rw [zim _ _ _ _ (by decide)]
 simp only [obs]
 by_cases hv:(zif (rg s x.R) x.zF x.Half).2=0
 · rw [hv,ifn (by decide)];simp only [bsf,Bool.not_false,ctr,cfa];have hr: -((10^x.zF.Length.toNat:Nat):Int)<(zif (rg s x.R) x.zF x.Half).1.N∧(zif (rg s x.R) x.zF x.Half).1.N<((10^x.zF.Length.toNat:Nat):Int):=znn (zafl hv);obtain⟨n,hcv⟩:∃n,(zif (rg s x.R) x.zF x.Half).1=⟨n,⟨#[]⟩⟩:=⟨_,zahw _ _ _⟩;rw [hcv]at hr⊢;simp only []at hr⊢;rw [zaa2 N (by omega) ht _ hr,zjk ht.1];simp only [obs];have hes:=z3d ht n;unfold zcx;rw [hes];rcases ztk N (by omega) s c hs.sto hp hsz.1 hsz.2 with⟨e,j,k,he,h1,h2,h3⟩|⟨a,h1,h2,h3,h4,h5⟩
   · rw [h1,h2,h3];refine .inl ⟨e,_,w6 (s.At+1),s,rfl,by omega,rfl,?_⟩;rcases he with rfl|rfl<;>rfl
   · rw [h1,h2,h3];obtain⟨a,rfl⟩:∃k:Nat,a=(k:Int):=⟨a.toNat,by omega⟩;have hw:a+(zn0 x.zF n).size≤s.Storage.Bytes.size:=by omega
     have hw0:0<(zn0 x.zF n).size:=by omega
     refine .inr ⟨_,_,_,rfl,?_,?_,fun _=>⟨rfl,by omega,by omega⟩,hs.updS (z32 hs.sto hw hw0) (zu4 hw),rfl,rfl,rfl⟩
     · simp only [obs,ctr];rw [z37 N (by omega) hs.sto hw hw0];show some (w6 (s.At+1),_)=_;rw [wn1];rfl
     · simp only [obs,bsf,cfa];rw [zact N (by omega) ht _ hr];simp only [obs];rw [zzs N (by omega) hs.sto hw hw0];show some (w6 (s.At+1),_)=_;rw [wn1];rfl
 · rw [ifp hv,zdq,dct hv];exact .inl ⟨2,_,_,s,rfl,by omega,rfl,rfl⟩
theorem ex_2 (s:zC) {x:zB} (hop:x.Op=2):zai s x=(.ok (s.At+1,updR s x.R x.Number)):=by
 cases x;cases hop;rfl
theorem hx_2 (N:Nat) (M:zG) {x:zB} (hop:x.Op=2):zf N M x=(za2 M x.R x.Number).bind fun r=>some (w6 (r.zC.At+1),r):=by
 cases x;cases hop;rfl
theorem rx_2 (N:Nat) {x:zB} (hop:x.Op=2) (hi:idx c.zA s.At=some x):ze N c s=(if 0≤x.R then(if x.R<(s.Registers.length:Int)then((s.Registers[x.R.toNat]?).bind fun _=>some (0,updR s x.R x.Number))else none)else none).bind fun r=>some (w6 (s.At+1),r.1,r.2):=by
 unfold ze
 rw [hi,obs]
 clear hi
 cases x;cases hop;rfl
theorem zah7 (N:Nat) (hN:20000<N) (hc:CodeV m c) (hs:StV m c s) {x:zB} (hx:c.zA[s.At.toNat]?=some x) (hop:x.Op=2):zcr N m c s x:=by
 have iv:=zf1 hc (lmg hx) hop (U:=⟨true,false,false,false,false,false,true,false,false,false,false,false,false,false,0,0⟩) rfl
 have hi:idx c.zA s.At=some x:=by unfold idx;rw [ifp hs.at0,hx]
 have m8:=hc.m2
 have a0:=hs.at0
 have a1:=hs.at1
 have n240:=hc.len
 have wn1:w6 (s.At+1)=s.At+1:=w6e
 unfold zcr
 rw [ex_2 s hop,hx_2 N _ hop,rx_2 N hop hi]
 obtain⟨g1,g2,g3,g4,g5⟩:=zgh hs (iv.r rfl)
 refine .inr ⟨_,_,_,rfl,?_,?_,fun _=>⟨rfl,by omega,by omega⟩,hs.updR iv.nu,rfl,rfl,rfl⟩
 · rw [zxp hs m8 (iv.r rfl)];show some (w6 (s.At+1),_)=_;rw [wn1]
 · rw [ifp g1,ifp g2,g3];show some (w6 (s.At+1),_)=_;rw [wn1]
theorem ex_3 (s:zC) {x:zB} (hop:x.Op=3):zai s x=(.ok (s.At+1,updR s x.R (rg s x.A))):=by
 cases x;cases hop;rfl
theorem hx_3 (N:Nat) (M:zG) {x:zB} (hop:x.Op=3):zf N M x=(idx M.zC.Registers x.A).bind fun v=>(za2 M x.R v).bind fun r=>some (w6 (r.zC.At+1),r):=by
 cases x;cases hop;rfl
theorem rx_3 (N:Nat) {x:zB} (hop:x.Op=3) (hi:idx c.zA s.At=some x):ze N c s=(if 0≤x.A then(if x.A<(s.Registers.length:Int)then((s.Registers[x.A.toNat]?).bind fun v=>if 0≤x.R then(if x.R<(s.Registers.length:Int)then((s.Registers[x.R.toNat]?).bind fun _=>some (0,updR s x.R v))else none)else none)else none)else none).bind fun r=>some (w6 (s.At+1),r.1,r.2):=by
 unfold ze
 rw [hi,obs]
 clear hi
 cases x;cases hop;rfl
theorem zah6 (N:Nat) (hN:20000<N) (hc:CodeV m c) (hs:StV m c s) {x:zB} (hx:c.zA[s.At.toNat]?=some x) (hop:x.Op=3):zcr N m c s x:=by
 have iv:=zf1 hc (lmg hx) hop (U:=⟨true,true,false,false,false,false,false,false,false,false,false,false,false,false,0,0⟩) rfl
 have hi:idx c.zA s.At=some x:=by unfold idx;rw [ifp hs.at0,hx]
 have m8:=hc.m2
 have a0:=hs.at0
 have a1:=hs.at1
 have n240:=hc.len
 have wn1:w6 (s.At+1)=s.At+1:=w6e
 unfold zcr
 rw [ex_3 s hop,hx_3 N _ hop,rx_3 N hop hi]
 obtain⟨g1,g2,g3,g4,g5⟩:=zgh hs (iv.r rfl)
 obtain⟨f1,f2,f3,f4,f5⟩:=zgh hs (iv.a rfl)
 refine .inr ⟨_,_,_,rfl,?_,?_,fun _=>⟨rfl,by omega,by omega⟩,hs.updR f5,rfl,rfl,rfl⟩
 · show((idx s.Registers x.A).bind _)=_;rw [f4,obs,zxp hs m8 (iv.r rfl)];show some (w6 (s.At+1),_)=_;rw [wn1]
 · rw [ifp f1,ifp f2,f3,obs,ifp g1,ifp g2,g3];show some (w6 (s.At+1),_)=_;rw [wn1]
theorem ex_5 (s:zC) {x:zB} (hop:x.Op=5):zai s x=(.ok (s.At+1,updC s (zn1 s x.A x.B))):=by
 cases x;cases hop;rfl
theorem hx_5 (N:Nat) (M:zG) {x:zB} (hop:x.Op=5):zf N M x=(zcz N M x).bind fun r=>some (w6 (M.zC.At+1),⟨updC M.zC r,M.code,M.raised⟩):=by
 cases x;cases hop;rfl
theorem rx_5 (N:Nat) {x:zB} (hop:x.Op=5) (hi:idx c.zA s.At=some x):ze N c s=(if 0≤x.A then(if x.A<(s.Registers.length:Int)then((s.Registers[x.A.toNat]?).bind fun v=>if 0≤x.B then(if x.B<(s.Registers.length:Int)then((s.Registers[x.B.toNat]?).bind fun w=>(zgx N v w).bind fun r14=>(zc3 r14).bind fun r15=>some (0,updC s r15))else none)else none)else none)else none).bind fun r=>some (w6 (s.At+1),r.1,r.2):=by
 unfold ze
 rw [hi,obs]
 clear hi
 cases x;cases hop;rfl
theorem zah4 (N:Nat) (hN:20000<N) (hc:CodeV m c) (hs:StV m c s) {x:zB} (hx:c.zA[s.At.toNat]?=some x) (hop:x.Op=5):zcr N m c s x:=by
 have iv:=zf1 hc (lmg hx) hop (U:=⟨false,true,true,false,false,false,false,false,false,false,false,false,false,false,0,0⟩) rfl
 have hi:idx c.zA s.At=some x:=by unfold idx;rw [ifp hs.at0,hx]
 have m8:=hc.m2
 have a0:=hs.at0
 have a1:=hs.at1
 have n240:=hc.len
 have wn1:w6 (s.At+1)=s.At+1:=w6e
 unfold zcr
 rw [ex_5 s hop,hx_5 N _ hop,rx_5 N hop hi]
 obtain⟨g1,g2,g3,g4,g5⟩:=zgh hs (iv.b rfl)
 obtain⟨f1,f2,f3,f4,f5⟩:=zgh hs (iv.a rfl)
 refine .inr ⟨_,_,_,rfl,?_,?_,fun _=>⟨rfl,by omega,by omega⟩,hs.updC (zqq _),rfl,rfl,rfl⟩
 · rw [z28 N (by omega) hs x (iv.a rfl) (iv.b rfl)];show some (w6 (s.At+1),_)=_;rw [wn1]
 · rw [ifp f1,ifp f2,f3,obs,ifp g1,ifp g2,g3,obs,zzy N (by omega) f5 g5,obs,zpx];show some (w6 (s.At+1),_)=_;rw [wn1];rfl
theorem zaj5 (s:zC) {x:zB} (hop:x.Op=21):zai s x=(.ok (s.At+1,updR s x.R ⟨s.Exception,0⟩)):=by
 cases x;cases hop;rfl
theorem zajm (N:Nat) (M:zG) {x:zB} (hop:x.Op=21):zf N M x=(za2 M x.R ⟨M.zC.Exception,0⟩).bind fun r=>some (w6 (r.zC.At+1),r):=by
 cases x;cases hop;rfl
theorem zaip (N:Nat) {x:zB} (hop:x.Op=21) (hi:idx c.zA s.At=some x):ze N c s=(if 0≤x.R then(if x.R<(s.Registers.length:Int)then((s.Registers[x.R.toNat]?).bind fun _=>some (0,updR s x.R ⟨s.Exception,0⟩))else none)else none).bind fun r=>some (w6 (s.At+1),r.1,r.2):=by
 unfold ze
 rw [hi,obs]
 clear hi
 cases x;cases hop;rfl
theorem zaft (N:Nat) (hN:20000<N) (hc:CodeV m c) (hs:StV m c s) {x:zB} (hx:c.zA[s.At.toNat]?=some x) (hop:x.Op=21):zcr N m c s x:=by
 have iv:=zf1 hc (lmg hx) hop (U:=⟨true,false,false,false,false,false,false,false,false,false,false,false,false,false,0,0⟩) rfl
 have hi:idx c.zA s.At=some x:=by unfold idx;rw [ifp hs.at0,hx]
 have m8:=hc.m2
 have a0:=hs.at0
 have a1:=hs.at1
 have n240:=hc.len
 have wn1:w6 (s.At+1)=s.At+1:=w6e
 unfold zcr
 rw [zaj5 s hop,zajm N _ hop,zaip N hop hi]
 obtain⟨g1,g2,g3,g4,g5⟩:=zgh hs (iv.r rfl)
 have hn:zew ⟨s.Exception,0⟩:=by
  have:=hs.ex0;have:=hs.ex1;exact⟨⟨by show-999999999999999≤s.Exception;omega,by show s.Exception≤999999999999999;omega⟩,by show(0:Int)≤0;omega,by show(0:Int)≤15;omega⟩
 refine .inr ⟨_,_,_,rfl,?_,?_,fun _=>⟨rfl,by omega,by omega⟩,hs.updR hn,rfl,rfl,rfl⟩
 · rw [zxp hs m8 (iv.r rfl)];show some (w6 (s.At+1),_)=_;rw [wn1]
 · rw [ifp g1,ifp g2,g3];show some (w6 (s.At+1),_)=_;rw [wn1]
end
end
end Go.Proofs.YtbmfjmakahmclaaGreatDoor.M
