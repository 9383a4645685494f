/- A machine that evaluates the program's form by typed values, and the proof that it is sound: part 1. -/
import Derived.Deep.AppendSrc
import Derived.Laws.IdiomCopy
import Derived.Laws.StructEq
import Derived.Test.YtbmfjmakahmclaaGreatDoorA0
namespace Go.Amx
set_option linter.unusedVariables false
set_option linter.unusedSimpArgs false
section
variable {U:Uni} {C:Ctx U} {μ:Mp} {H:Fz} {E:List (AV U)} {h h':za U} {a:Act} {w:World} {o:Oper} {v:AV U}
theorem z96 (S:Nat→Nat→Prop) (w:World) (b o:Nat) (v:Value) (hS:S b o):Wd S w (w.setCell ⟨b,o,none⟩ v) where
 os:=rfl
 tape:=rfl
 output:=rfl
 size:=by simp [World.setCell]
 keep:=fun b' hb'=>by
  by_cases e:b'=b
  · subst e;simp only [World.setCell,Array.getElem?_modify,if_true];rw [Array.getElem?_eq_getElem hb'];cases hq:w.heap[b']with
    | cells c e f=>
     refine .inr ⟨c,c.setIfInBounds o v,e,f,rfl,by simp,by simp,fun o' hn=> ?_⟩;have:¬o=o':=fun h=>hn (h▸hS);simp [Array.getElem?_setIfInBounds,this]
    | _=>exact .inl (by simp)
  · refine .inl ?_;simp only [World.setCell,Array.getElem?_modify];rw [if_neg (fun h=>e h.symm)]
theorem zlc (S:Nat→Nat→Prop) (b:Nat):∀(vs:List Value) (o:Nat) (w:World),(∀j,j<vs.length→S b (o+j))→Wd S w (w.setCells b o vs)
 | [],_,w,_=>Wd.refl _ w
 | v::vs,o,w,h=>by
  rw [World.setCells];exact(z96 S w b o v (by simpa using h 0 (by simp))).trans (zlc S b vs (o+1) _ fun j hj=>by
   have:=h (j+1) (by simp;omega)
   rwa [show o+(j+1)=o+1+j by omega]at this)
theorem zzw (L:ELaws C.En) (hm:Mem μ H w) {k:Nat} {l:Loc} (hk:μ k=some l) {w':World} (hw:Wd l.holds w w') {ob':Ob U} (hob:zcl C.En μ H w' l ob') {f:Nat→Prop} (hfk:f k)
 (hf:∀k' l',f k'→μ k'=some l'→∃ob,zc h k'=some ob∧zcl C.En μ H w l' ob) (hgk:zc h k≠none):After C f μ H h w (zed h k ob') μ H w' where
 leH:=H.le_refl
 leM:=μ.le_refl
 mem:={
  frz:=fun b o v hv=>by
   have hn:¬l.holds b o:=fun hh=>by have:=hm.free _ _ _ _ hk hh;rw [hv]at this;cases this
   rw [hw.cell (zgo (hm.frz b o v hv)) hn];exact hm.frz b o v hv
  apart:=hm.apart
  free:=hm.free
  inside:=fun k l b o h1 h2=>Nat.lt_of_lt_of_le (hm.inside k l b o h1 h2) hw.size}
 wd:=hw.weaken fun b o _ hh=>⟨k,l,hfk,hk,hh⟩
 same:=fun k' hn _=>by
  have:¬k'=k:=fun e=>hn (e▸hfk);exact⟨rfl,by rw [zdx,if_neg this]⟩
 objs:=fun k' l' hc hl=>by
  by_cases e:k'=k
  · subst e;rw [hk]at hl;cases hl;exact⟨ob',by rw [zdx,if_pos rfl],hob⟩
  · rcases hc with hc|⟨h1,h2⟩
    · obtain⟨ob,h1,h2⟩:=hf k' l' hc hl;exact⟨ob,by rw [zdx,if_neg e];exact h1,h2.keep L hw H.le_refl μ.le_refl fun b o hh hh'=>e (hm.apart _ _ _ _ _ _ hl hk hh hh')⟩
    · rw [zdx,if_neg e]at h2;exact absurd h1 h2
 frzNew:=fun b o hb=> .inl hb
 locNew:=fun k' l' b o h1 h2=> .inl ⟨l',h1,h2⟩
theorem ztr (L:ELaws C.En) (p:Pre C μ H E h a w o) {k:Nat} {l:Loc} (hc:zar C o=2) (hkf:k∈zby C E h o) (hro:C.ro.contains k=false) (hk:μ k=some l) {w':World} (hr:(execOp a.eval o).run C.P w= .ok .skip w') (hw:Wd l.holds w w') {ob':Ob U}
 (hob:zcl C.En μ H w' l ob'):zb3 C μ H E h a w o .dead (zed h k ob'):=fun next Q hn=>by
 obtain⟨ob,h1,_⟩:=p.foot k hkf l hk
 exact zad3 hr (hn undef μ H w' (.dead _) (zzw L p.mem hk hw hob ⟨hc,hkf,hro⟩ (fun k' l' hk' hl=>p.foot k' hk'.2.1 l' hl) (by rw [h1];simp)))
theorem zsf {v:AV U} (h:(v.cells.all AV.one)=true):v.plain=true:=by
 cases v with
 | sc v=>cases v<;>first|rfl|simp [AV.cells,AV.one,Value.oneCell']at h
 | dead=>simp [AV.cells,AV.one]at h
 | tup=>simp [AV.cells,AV.one]at h
 | _=>rfl
theorem zxg {T:TypeId} {x y:Operand} (ho:o.op= .store T x y) {b o':Nat} (hx:a.eval x= .pointer (some ⟨b,o',none⟩)) {n:Nat} (hs:zbh C T=some n) (hn:(a.eval y).cells.size=n) (h1:∀u∈(a.eval y).cells.toList,u.oneCell'=true)
 (hc:∀j,j<n→(w.cell? ⟨b,o'+j,none⟩).isSome=true∧w.frozen? ⟨b,o'+j,none⟩=false):(execOp a.eval o).run C.P w= .ok .skip (w.setCells b o' (a.eval y).cells.toList):=by
 have hst:=run_storeCells_cells (P:=C.P) b o' (a.eval y).cells.toList 0 w (fun j hj=>by simpa using(hc j (by simpa [hn]using hj)).1) (fun j hj=>by simpa using(hc j (by simpa [hn]using hj)).2) h1
 simp only [Nat.add_zero]at hst
 simp [execOp,ho,hx,Instr.storeAt,Instr.sureAddr,storeVar,zga hs,hn,hst]
theorem zw4 {av:AV U} {u:Value} (hV:V C.En μ H av u) (h:(av.cells.all AV.one)=true):∀x∈u.cells.toList,x.oneCell'=true:=by
 obtain⟨hl,hc⟩:=V.cells hV (zsf h)
 intro x hx
 obtain⟨j,hj⟩:=List.getElem?_of_mem hx
 rw [Array.getElem?_toList]at hj
 have hlt:j<av.cells.length:=by rw [hl];exact(Array.getElem?_eq_some_iff.1 hj).1
 have:=hc j av.cells[j] (lga hlt)
 rw [agd,hj]at this
 exact V.one (lat h _ (List.getElem_mem hlt)) this
theorem zmx {T:TypeId} {x y:Operand} (ho:o.op= .store T x y):zar C o=2:=by simp [zar,ho]
theorem zmv (us:Array Value) (j:Nat) (hj:j<us.size):us.toList[j]?=some (us.getD j undef):=by
 simp [Array.getD,hj]
theorem z8q (L:ELaws C.En) (p:Pre C μ H E h a w o) {T:TypeId} {x y:Operand} (ho:o.op= .store T x y) {key off:Nat} (hx:opv C E x= .ptr key off) {cs:List (AV U)} (hg:zc h key=some (.box cs)) {n:Nat} (hs:zbh C T=some n)
 (hn:(opv C E y).cells.length=n) (h1:((opv C E y).cells.all AV.one)=true) (hle:off+n≤cs.length) (hro:C.ro.contains key=false):zb3 C μ H E h a w o .dead (zed h key (.box (zkb cs off (opv C E y).cells))):=by
 have hxm:x∈o.op.operands:=by simp [ho,Op.operands]
 have hV:=p.ops x hxm
 have hVy:=p.ops y (by simp [ho,Op.operands])
 have hkf:key∈zby C E h o:=zcr (by simp [zar,ho]) hxm (by simp [hx,zdn,zc4])
 obtain⟨hcl,hcv⟩:=V.cells hVy (zsf h1)
 have h1':=zw4 hVy h1
 rw [hx]at hV
 generalize hz:a.eval x=z at hV
 cases hV with
 | ptr hl hb ha=>
  rename_i l b o';obtain⟨ob,g1,g2⟩:=p.foot key hkf l hl;rw [hg]at g1;cases g1;obtain⟨q1,q2,b1,o1,q3,q4,q5⟩:=g2;rw [ha]at q3;cases q3;have hcell:∀j,j<cs.length→∃u,w.cell? ⟨b,o'+j,none⟩=some u∧w.frozen? ⟨b,o'+j,none⟩=false:=fun j hj=>by
   obtain⟨u,r1,r2,r3⟩:=q5 j cs[j] (lga hj);exact⟨u,r1,r2⟩
  have hcells:∀j,j<n→(w.cell? ⟨b,o'+off+j,none⟩).isSome=true∧w.frozen? ⟨b,o'+off+j,none⟩=false:=fun j hj=>by
   obtain⟨u,r1,r2⟩:=hcell (off+j) (by omega);rw [Nat.add_assoc];exact⟨by rw [r1];rfl,r2⟩
  have hsz:(a.eval y).cells.toList.length=n:=by rw [Array.length_toList];omega
  refine ztr L p (zmx ho) hkf hro hl (zxg ho hz hs (by omega) h1' hcells) (zlc _ b _ _ w fun j hj=>⟨o',ha,by omega,by omega⟩) ?_;refine⟨q1,q2,b,o',ha,by rw [zmm (by omega)];exact q4,fun j c hj=> ?_⟩;rw [zl8 (by omega)]at hj;rw [World.frozen?_setCells]
  by_cases hin:off≤j∧j<off+(opv C E y).cells.length
  · rw [if_pos hin]at hj;have hjn:j-off<(a.eval y).cells.toList.length:=by omega
    have:=World.cell?_setCells_in b (a.eval y).cells.toList (o'+off) w (fun i hi=>(hcells i (by omega)).1) (j-off) hjn;rw [show o'+off+(j-off)=o'+j by omega]at this;refine⟨_,this,?_,?_⟩
    · obtain⟨u,_,r2⟩:=hcell j (by omega);exact r2
    · have hv:=hcv _ _ hj;have e:=zmv (a.eval y).cells (j-off) (by simpa using hjn);rw [lga hjn]at e;rw [Option.some.inj e];exact hv
  · rw [if_neg hin]at hj;obtain⟨u,r1,r2,r3⟩:=q5 j c hj;refine⟨u,?_,r2,r3⟩;rw [World.cell?_setCells_out _ _ _ _ _ (fun _ _=>by simp only;omega)];exact r1
theorem z5s (k:IntKind) (v:Int) (i:Nat):∀(l:List Int) (j0 j:Nat) c,(zsa (U:=U) k v i j0 l)[j]?=some c→c= .sc (.int k (if i=j0+j then v else zbk l j))∧j<l.length
 | [],_,_,_,h=>by simp [zsa]at h
 | x::l,j0,0,c,h=>by
  simp only [zsa,List.getElem?_cons_zero,Option.some.injEq]at h;subst h;exact⟨by simp [zbk],by simp⟩
 | x::l,j0,j+1,c,h=>by
  simp only [zsa,List.getElem?_cons_succ]at h;obtain⟨h1,h2⟩:=z5s k v i l (j0+1) j c h;refine⟨?_,by simp;omega⟩;rw [h1,show j0+1+j=j0+(j+1)by omega];simp [zbk]
theorem zzg (k:IntKind) (v:Int) (i:Nat):∀(l:List Int) (j0:Nat),(zsa (U:=U) k v i j0 l).length=l.length
 | [],_=>rfl
 | x::l,j0=>by simp [zsa,zzg k v i l]
theorem z8r (L:ELaws C.En) (p:Pre C μ H E h a w o) {T:TypeId} {x y:Operand} (ho:o.op= .store T x y) {key off m i:Nat} (hx:opv C E x= .ixp key off m i) {cs:List (AV U)} (hg:zc h key=some (.box cs)) (hs:zbh C T=some 1)
 {kd:IntKind} {z:Int} (hy:opv C E y= .sc (.int kd z)) {l0:List Int} (hi:zn8 kd ((cs.drop off).take m)=some l0) (hl0:l0.length=m) (hro:C.ro.contains key=false):zb3 C μ H E h a w o .dead (zed h key (.box (zkb cs off (zsa kd z i 0 l0)))):=by
 have hxm:x∈o.op.operands:=by simp [ho,Op.operands]
 have hV:=p.ops x hxm
 have hy':=(hy▸p.ops y (by simp [ho,Op.operands])).int
 have hkf:key∈zby C E h o:=zcr (by simp [zar,ho]) hxm (by simp [hx,zdn,zc4])
 have hcsl:=zoh _ _ _ hi
 rw [hx]at hV
 generalize hz:a.eval x=zz at hV
 cases hV with
 | ixp hl hb ha him=>
  rename_i l b o';have hlen:off+m≤cs.length:=by
   have:=congrArg List.length hcsl;simp at this;omega
  obtain⟨ob,g1,g2⟩:=p.foot key hkf l hl;rw [hg]at g1;cases g1;obtain⟨q1,q2,b1,o1,q3,q4,q5⟩:=g2;rw [ha]at q3;cases q3;obtain⟨u0,r1,r2,r3⟩:=q5 (off+i) cs[off+i] (lga (by omega));have hsl:(zsa (U:=U) kd z i 0 l0).length=m:=by rw [zzg,hl0]
  refine ztr L p (zmx ho) hkf hro hl (zxg ho hz hs (by rw [hy'];rfl) (by rw [hy'];intro u hu;simp [Value.cells]at hu;subst hu;rfl) (fun j hj=> ?_)) (zlc _ b _ _ w fun j hj=>⟨o',ha,by omega,?_⟩) ?_
  · have:j=0:=by omega
    subst this;rw [Nat.add_zero,Nat.add_assoc,r1];exact⟨rfl,r2⟩
  · rw [hy']at hj;simp [Value.cells]at hj;omega
  · refine⟨q1,q2,b,o',ha,by rw [zmm (by omega)];exact q4,fun j c hj=> ?_⟩;rw [zl8 (by omega)]at hj;rw [World.frozen?_setCells,hy'];show∃v,(w.setCells b (o'+off+i) [Value.int kd z]).cell? _=some v∧_
    by_cases hin:off≤j∧j<off+(zsa (U:=U) kd z i 0 l0).length
    · rw [if_pos hin]at hj;obtain⟨e1,e2⟩:=z5s _ _ _ _ _ _ _ hj;obtain⟨u,t1,t2,t3⟩:=q5 j cs[j] (lga (by omega))
      by_cases e:i=0+(j-off)
      · rw [if_pos e]at e1;subst e1;have:=World.cell?_setCells_in b [Value.int kd z] (o'+off+i) w (fun i' hi'=>by
         have:i'=0:=by simpa using hi'
         subst this;rw [Nat.add_zero,Nat.add_assoc,r1];rfl) 0 (by simp)
        rw [show o'+off+i+0=o'+j by omega]at this;exact⟨_,this,t2,.sc _⟩
      · rw [if_neg e]at e1;subst e1;refine⟨u,by rw [World.cell?_setCells_out _ _ _ _ _ (fun _ _=>by simp only [List.length_cons,List.length_nil];omega)];exact t1,t2,?_⟩;have hq:((cs.drop off).take m)[j-off]?=some cs[j]:=by
         rw [List.getElem?_take,if_pos (by omega),List.getElem?_drop,show off+(j-off)=j by omega];exact lga (by omega)
        rw [hcsl,gem,zwe l0 (j-off) (by omega)]at hq;simp only [Option.map_some,Option.some.injEq]at hq;rw [hq];exact t3
    · rw [if_neg hin]at hj;obtain⟨u,t1,t2,t3⟩:=q5 j c hj;refine⟨u,by rw [World.cell?_setCells_out _ _ _ _ _ (fun _ _=>by simp only [List.length_cons,List.length_nil];omega)];exact t1,t2,t3⟩
theorem zad4 {c:AV U} (hc:∀k ver w,c≠ .own k ver w):zem h c=c:=by
 cases c<;>first|rfl|exact absurd rfl (hc _ _ _)
theorem z1z:∀(cs:List (AV U)),cs.foldr (fun c acc=>match c with| .own k _ _=>k::acc|_=>acc) []=[]→∀c∈cs,∀k ver w,c≠ .own k ver w
 | [],_,c,hc,_,_,_=>by simp at hc
 | x::cs,hf,c,hc,k,ver,w=>by
  rw [List.foldr_cons]at hf;cases x with
  | own=>simp at hf
  | _=>
   simp only at hf;rcases mco hc with rfl|hc
   · intro h;cases h
   · exact z1z cs hf c hc k ver w
theorem zze {v:AV U} (hv:zfl v=[]):v.cells.map (zem h)=v.cells:=by
 have key:∀c∈v.cells,zem h c=c:=by
  intro c hc;cases v with
  | own=>simp [zfl]at hv
  | agg cs=>exact zad4 (z1z cs hv c hc)
  | _=>simp [AV.cells]at hc;subst hc;rfl
 rw [List.map_congr_left key,List.map_id']
theorem z5u (L:ELaws C.En) (p:Pre C μ H E h a w o) {T:TypeId} {x y:Operand} (ho:o.op= .store T x y) {key ver i off:Nat} (hx:opv C E x= .eptr key ver i off) {t:U.Ty} {xs:List (U.den t)} (hg:zc h key=some (.arr ver t xs)) {n:Nat} (hs:zbh C T=some n)
 (hn:(opv C E y).cells.length=n) (h1:((opv C E y).cells.all AV.one)=true) (hle:off+n≤C.En.sz t) {e e':U.den t} (hxi:xs[i]?=some e) (hno:zfl (opv C E y)=[])
 (hre:C.En.reify t (zkb (C.En.enc t e) off ((opv C E y).cells.map (zem h)))=some e') (hro:C.ro.contains key=false):zb3 C μ H E h a w o .dead (zed h key (.arr ver t (xs.set i e'))):=by
 have hxm:x∈o.op.operands:=by simp [ho,Op.operands]
 have hV:=p.ops x hxm
 have hVy:=p.ops y (by simp [ho,Op.operands])
 have hkf:key∈zby C E h o:=zcr (by simp [zar,ho]) hxm (by simp [hx,zdn,zc4])
 obtain⟨hcl,hcv⟩:=V.cells hVy (zsf h1)
 have h1':=zw4 hVy h1
 rw [zze hno]at hre
 obtain⟨hel,hec⟩:=L.reify _ _ _ hre
 have hsl:(opv C E y).cells.length=n:=hn
 rw [hx]at hV
 generalize hz:a.eval x=z at hV
 cases hV with
 | eptr hl hb hv hpp hh=>
  rename_i l;obtain⟨ob,g1,g2⟩:=p.foot key hkf l hl;rw [hg]at g1;cases g1;obtain⟨q1,q2,q3,q4,q5⟩:=g2;obtain⟨b,o',ha,hil,rfl⟩:=hh q2.symm;simp only [ha]at q5;obtain⟨q6,q7,q8⟩:=q5;rw [q4]at hz;rw [q3]at hil;have hin:∀j,j<C.En.sz t→i*C.En.sz t+j<xs.length*C.En.sz t:=fun j hj=>zmo hil hj;have hcells:∀j,j<n→(w.cell? ⟨b,o'+(i*C.En.sz t+off)+j,none⟩).isSome=true∧w.frozen? ⟨b,o'+(i*C.En.sz t+off)+j,none⟩=false:=fun j hj=>by
   have:=hin (off+j) (by omega);have h3:=q7 (i*C.En.sz t+(off+j)) (by omega);rw [show o'+(i*C.En.sz t+off)+j=o'+(i*C.En.sz t+(off+j))by omega];exact h3
  have hsz:(a.eval y).cells.toList.length=n:=by rw [Array.length_toList];omega
  refine ztr L p (zmx ho) hkf hro hl (zxg ho hz hs (by omega) h1' hcells) (zlc _ b _ _ w fun j hj=>⟨o',ha,by omega,by have:=hin (off+j) (by omega);omega⟩) ?_;refine⟨q1,q2,by rw [List.length_set];exact q3,q4,?_⟩;simp only [ha];refine⟨by rw [List.length_set];exact q6,fun j hj=>⟨World.isSome_setCells _ _ _ _ _ (q7 j hj).1,by rw [World.frozen?_setCells];exact(q7 j hj).2⟩,fun i' x' hx' j c hj=> ?_⟩;have hjl:=(gea hj).1;rw [L.sz]at hjl;rw [List.getElem?_set]at hx'
  by_cases hii:i=i'
  · subst hii;rw [if_pos rfl,if_pos hil]at hx';cases hx';have hlt:j<(zkb (C.En.enc t e) off (opv C E y).cells).length:=by rw [hel];exact hjl
    have hr:=hec j _ c (lga hlt) hj;have hs2:=lga hlt;rw [zl8 (by rw [L.sz];omega)]at hs2
    by_cases hoff:off≤j∧j<off+(opv C E y).cells.length
    · rw [if_pos hoff]at hs2;have hjn:j-off<(a.eval y).cells.toList.length:=by omega
      have:=World.cell?_setCells_in b (a.eval y).cells.toList (o'+(i*C.En.sz t+off)) w (fun k hk=>(hcells k (by omega)).1) (j-off) hjn;rw [show o'+(i*C.En.sz t+off)+(j-off)=o'+(i*C.En.sz t+j)by omega]at this;refine⟨_,this,V.ref ?_ hr⟩;have hv:=hcv _ _ hs2;have e:=zmv (a.eval y).cells (j-off) (by simpa using hjn);rw [lga hjn]at e;rw [Option.some.inj e];exact hv
    · rw [if_neg hoff]at hs2;obtain⟨u,r1,r2⟩:=q8 i e hxi j _ hs2;refine⟨u,?_,V.ref r2 hr⟩;rw [World.cell?_setCells_out _ _ _ _ _ (fun _ _=>by simp only;omega)];exact r1
  · rw [if_neg hii]at hx';obtain⟨u,r1,r2⟩:=q8 i' x' hx' j c hj;refine⟨u,?_,r2⟩;rw [World.cell?_setCells_out _ _ _ _ _ (fun _ _=>by
     simp only;rcases Nat.lt_or_gt_of_ne hii with hlt|hlt
     · have:(i+1)*C.En.sz t≤i'*C.En.sz t:=Nat.mul_le_mul_right _ hlt;rw [Nat.add_mul]at this;omega
     · have:(i'+1)*C.En.sz t≤i*C.En.sz t:=Nat.mul_le_mul_right _ hlt;rw [Nat.add_mul]at this;omega)]
    exact r1
end
section
variable {U:Uni} {C:Ctx U} {μ:Mp} {H:Fz} {E:List (AV U)} {h h':za U} {a:Act} {w:World} {o:Oper} {v:AV U}
theorem z82 (hm:Mem μ H w) {k:Nat} (hk:μ k=none) (hh:zc h k=none) {w':World} (hwd:Wd (fun _ _=>False) w w') {l:Loc} {ob:Ob U} (hat:∀b o,l.holds b o→w.heap.size≤b∧b<w'.heap.size)
 (hob:zcl C.En (μ.upd k l) H w' l ob):After C zup μ H h w (zed h k ob) (μ.upd k l) H w':=by
 refine {
  leH:=H.le_refl
  leM:=μ.le_upd l hk
  mem:={
   frz:=fun b o v hv=>by rw [hwd.cell (zgo (hm.frz b o v hv)) (by simp)];exact hm.frz b o v hv
   apart:= ?_
   free:= ?_
   inside:= ?_}
  wd:=hwd.weaken fun _ _ _ hf=>hf.elim
  same:=fun k' _ hn=> ?_
  objs:=fun k' l' hc hl=> ?_
  frzNew:=fun b o hb=> .inl hb
  locNew:=fun k' l' b o hl hb=> ?_}
 · intro k1 k2 l1 l2 b o h1 h2 g1 g2;unfold Mp.upd at h1 h2;split at h1<;>split at h2
   · simp_all
   · cases h1;have:=hm.inside _ _ _ _ h2 g2;have:=hat _ _ g1;omega
   · cases h2;have:=hm.inside _ _ _ _ h1 g1;have:=hat _ _ g2;omega
   · exact hm.apart _ _ _ _ _ _ h1 h2 g1 g2
 · intro k1 l1 b o h1 g1;unfold Mp.upd at h1;split at h1
   · cases h1;have:=hat _ _ g1;cases hq:H b o with
     | none=>rfl
     | some v=>
      have:=zgo (hm.frz _ _ _ hq);simp only at*;omega
   · exact hm.free _ _ _ _ h1 g1
 · intro k1 l1 b o h1 g1;unfold Mp.upd at h1;split at h1
   · cases h1;exact(hat _ _ g1).2
   · have:=hm.inside _ _ _ _ h1 g1;have:=hwd.size;omega
 · have e:¬k'=k:=fun e=>hn (by subst e;exact⟨hh,by rw [zdx];simp⟩);exact⟨by simp [Mp.upd,e],by rw [zdx];simp [e]⟩
 · rcases hc with hc|⟨h1,h2⟩
   · exact hc.elim
   · rw [zdx]at h2⊢
     by_cases e:k'=k
     · subst e;simp only [Mp.upd,if_true]at hl;cases hl;exact⟨ob,by simp,hob⟩
     · simp [e,h1]at h2
 · unfold Mp.upd at hl;split at hl
   · cases hl;exact .inr (.inl (hat _ _ hb).1)
   · exact .inl ⟨l',hl,hb⟩
theorem zqm (L:ELaws C.En) (p:Pre C μ H E h a w o) {k:Nat} {ob:Ob U} (hk:μ k=none) (hh:zc h k=none) {w':World} (hwd:Wd (fun _ _=>False) w w') {l:Loc} {cv:Value}
 (hr:(execOp a.eval o).run C.P w= .ok (.value cv) w') (hat:∀b o,l.holds b o→w.heap.size≤b∧b<w'.heap.size)
 (hob:zcl C.En (μ.upd k l) H w' l ob) (hv:V C.En (μ.upd k l) H v cv):zb3 C μ H E h a w o v (zed h k ob):=fun next Q hn=>by
 have ha:=z82 p.mem hk hh hwd hat hob
 exact zm5 hr (hn cv _ H _ hv (ha.weaken (fun k hk=>hk.elim) fun k' l' hk' _ hl=>p.foot' L ha hk'.2.1 hl))
theorem Mp.le_upd_ver (μ:Mp) {k:Nat} {l l':Loc} (hk:μ k=some l) (hb:l.box=false) (hb':l'.box=false) (hv:l.ver<l'.ver):μ.le (μ.upd k l'):=fun k' l1 h=>by
 unfold Mp.upd
 by_cases e:k'=k
 · subst e;rw [hk]at h;cases h;exact⟨l',by simp,.inr ⟨hb,hb',hv⟩⟩
 · exact⟨l1,by simpa [e]using h,.inl rfl⟩
theorem zadx (L:ELaws C.En) (hm:Mem μ H w) {k:Nat} {l l':Loc} (hk:μ k=some l) (hb:l.box=false) (hb':l'.box=false) (hv:l.ver<l'.ver) {w':World} (hw:Wd l.holds w w')
 (hloc:∀b o,l'.holds b o→l.holds b o∨(w.heap.size≤b∧b<w'.heap.size)) {ob':Ob U} (hob:zcl C.En (μ.upd k l') H w' l' ob') {f:Nat→Prop} (hfk:f k)
 (hf:∀k' l',f k'→μ k'=some l'→∃ob,zc h k'=some ob∧zcl C.En μ H w l' ob) (hgk:zc h k≠none):After C f μ H h w (zed h k ob') (μ.upd k l') H w':=by
 have hle:=μ.le_upd_ver hk hb hb' hv
 have hold:∀k1 l1,(μ.upd k l') k1=some l1→k1≠k→μ k1=some l1:=fun k1 l1 h1 h2=>by simpa [Mp.upd,h2]using h1
 have hnew:∀l1,(μ.upd k l') k=some l1→l1=l':=fun l1 h1=>by rw [Mp.upd_self]at h1;exact(Option.some.inj h1).symm
 refine {
  leH:=H.le_refl
  leM:=hle
  mem:={
   frz:=fun b o v hv=>by
    have hn:¬l.holds b o:=fun hh=>by have:=hm.free _ _ _ _ hk hh;rw [hv]at this;cases this
    rw [hw.cell (zgo (hm.frz b o v hv)) hn];exact hm.frz b o v hv
   apart:= ?_
   free:= ?_
   inside:= ?_}
  wd:=hw.weaken fun b o _ hh=>⟨k,l,hfk,hk,hh⟩
  same:=fun k' hn _=>by
   have:¬k'=k:=fun e=>hn (e▸hfk);exact⟨by simp [Mp.upd,this],by rw [zdx,if_neg this]⟩
  objs:= ?_
  frzNew:=fun b o hb=> .inl hb
  locNew:= ?_}
 · intro k1 k2 l1 l2 b o h1 h2 g1 g2
   by_cases e1:k1=k
   · by_cases e2:k2=k
     · rw [e1,e2]
     · subst e1;have:=hnew _ h1;subst this;have h2':=hold _ _ h2 e2;rcases hloc _ _ g1 with g|g
       · exact hm.apart _ _ _ _ _ _ hk h2' g g2
       · have:=hm.inside _ _ _ _ h2' g2;omega
   · have h1':=hold _ _ h1 e1
     by_cases e2:k2=k
     · subst e2;have:=hnew _ h2;subst this;rcases hloc _ _ g2 with g|g
       · exact hm.apart _ _ _ _ _ _ h1' hk g1 g
       · have:=hm.inside _ _ _ _ h1' g1;omega
     · exact hm.apart _ _ _ _ _ _ h1' (hold _ _ h2 e2) g1 g2
 · intro k1 l1 b o h1 g1
   by_cases e1:k1=k
   · subst e1;have:=hnew _ h1;subst this;rcases hloc _ _ g1 with g|g
     · exact hm.free _ _ _ _ hk g
     · cases hq:H b o with
       | none=>rfl
       | some v=>
        have:=zgo (hm.frz _ _ _ hq);simp only at*;omega
   · exact hm.free _ _ _ _ (hold _ _ h1 e1) g1
 · intro k1 l1 b o h1 g1;have hs:=hw.size
   by_cases e1:k1=k
   · subst e1;have:=hnew _ h1;subst this;rcases hloc _ _ g1 with g|g
     · have:=hm.inside _ _ _ _ hk g;omega
     · exact g.2
   · have:=hm.inside _ _ _ _ (hold _ _ h1 e1) g1;omega
 · intro k' l1 hc hl
   by_cases e:k'=k
   · subst e;have:=hnew _ hl;subst this;exact⟨ob',by rw [zdx,if_pos rfl],hob⟩
   · have hl':=hold _ _ hl e;rcases hc with hc|⟨h1,h2⟩
     · obtain⟨ob,h1,h2⟩:=hf k' l1 hc hl';exact⟨ob,by rw [zdx,if_neg e];exact h1,h2.keep L hw H.le_refl hle fun b o hh hh'=>e (hm.apart _ _ _ _ _ _ hl' hk hh hh')⟩
     · rw [zdx,if_neg e]at h2;exact absurd h1 h2
 · intro k' l1 b o h1 h2
   by_cases e:k'=k
   · subst e;have:=hnew _ h1;subst this;rcases hloc _ _ h2 with g|g
     · exact .inl ⟨l,hk,g⟩
     · exact .inr (.inl g.1)
   · exact .inl ⟨l1,hold _ _ h1 e,h2⟩
theorem ztg (L:ELaws C.En) {t:U.Ty} {xs:List (U.den t)} {u:Value} (he:zqk C.En μ H w t xs u) {tx e':TypeId} (hk:C.P.underlying tx=some (.slice e')):
 ∃news,Src C.P (C.En.sz t) tx u xs.length news w∧∀i x,xs[i]?=some x→∀j c,(C.En.enc t x)[j]?=some c→∃cv,news[i*C.En.sz t+j]?=some cv∧V C.En μ H c cv:=by
 obtain⟨ad,cap,b,o',rfl,hcap,had,hcs⟩:=he
 by_cases h0:xs=[]
 · subst h0;refine⟨[],?_,fun i x hx=>by simp at hx⟩;cases ad with
   | none=>exact Src.ofNil w hk cap
   | some A=>exact Src.ofSlice w hk A 0 cap [] (by simp) (fun j u hj=>by simp at hj) (fun u hu=>by cases hu)
 · have hA:=had h0;subst hA;have hpos:=L.pos t;have hcell:∀q,q<xs.length*C.En.sz t→∃cv,w.cell? ⟨b,o'+q,none⟩=some cv∧cv.oneCell'=true:=by
    intro q hq;have hi:q/C.En.sz t<xs.length:=(Nat.div_lt_iff_lt_mul hpos).2 hq;have hj:q%C.En.sz t<C.En.sz t:=Nat.mod_lt _ hpos;have hx:=lga hi;have hje:q%C.En.sz t<(C.En.enc t xs[q/C.En.sz t]).length:=by rw [L.sz];exact hj
    obtain⟨cv,h1,h2⟩:=hcs _ _ hx _ _ (lga hje);rw [show q/C.En.sz t*C.En.sz t+q%C.En.sz t=q by rw [Nat.mul_comm];exact Nat.div_add_mod _ _]at h1;exact⟨cv,h1,(L.fz t _ _ (List.getElem_mem hje)).one h2⟩
   refine⟨(List.range (xs.length*C.En.sz t)).map fun q=>(w.cell? ⟨b,o'+q,none⟩).getD undef,?_,fun i x hx j c hj=> ?_⟩
   · refine Src.ofSlice w hk ⟨b,o',none⟩ xs.length cap _ (by simp) (fun q u hq=> ?_) (fun u hu=> ?_)
     · rw [gem,oma]at hq;obtain⟨q',hq',rfl⟩:=hq;have hlt:=(gea hq').1;simp only [List.length_range]at hlt;rw [List.getElem?_range hlt]at hq';cases hq';obtain⟨cv,h1,_⟩:=hcell q hlt;rw [Addr.add_mid,h1];rfl
     · obtain⟨q,hq,rfl⟩:=List.mem_map.1 hu;obtain⟨cv,h1,h2⟩:=hcell q (List.mem_range.1 hq);rw [h1];exact h2
   · obtain⟨cv,h1,h2⟩:=hcs i x hx j c hj;have hil:=(gea hx).1;have hjl:=(gea hj).1;rw [L.sz]at hjl;have hlt:=zmo hil hjl;refine⟨cv,?_,h2⟩;rw [gem,List.getElem?_range hlt,Option.map_some,h1];rfl
theorem zue {c:Call} {x y:Operand} {T T':TypeId} (ho:o.op= .call c) (hc:c.callee= .builtin .append) (hargs:c.args.toList=[x,y]) (hT:c.argTypes.toList=[T,T']):
 execOp a.eval o=(do let v←Builtin.append_ #[T,T'] o.type #[a.eval x,a.eval y];pure (.value v)):=by
 have ha:c.args= #[x,y]:=by apply Array.ext';simpa using hargs
 have hb:c.argTypes= #[T,T']:=by apply Array.ext';simpa using hT
 simp [execOp,ho,resolve,hc,ha,hb,invoke,builtin]
theorem zfn {T e:TypeId} (h:zh8 C T=some e):C.P.underlying T=some (.slice e):=by
 unfold zh8 at h
 split at h
 · rename_i e' he;cases h;exact he
 · cases h
theorem zxo {e:TypeId} {n:Nat} (hr:zh5 C e n=true):∃i,C.P.info? e=some i:=by
 unfold zh5 at hr
 cases hi:C.P.info? e with
 | none=>rw [hi]at hr;cases hr
 | some i=>exact⟨i,rfl⟩
theorem zvj {e:TypeId} {n:Nat} {i:TypeInfo} (hs:zbh C e=some n) (hi:C.P.info? e=some i):i.size=n:=by simpa [zbh,hi]using hs
theorem zyq (L:ELaws C.En) {T T' ty e e':TypeId} (hu:C.P.underlying T=some (.slice e)) (hu':C.P.underlying T'=some (.slice e')) {t:U.Ty} (hs:zbh C e=some (C.En.sz t)) {xs ys:List (U.den t)} {ux uy:Value}
 (hx:zqk C.En μ H w t xs ux) (hy:zqk C.En μ H w t ys uy) (hr:zh5 C e (xs.length+ys.length)=true) {ad:Option Addr} {cap:Nat} (hux:ux= .slice ad xs.length cap) (hcap:cap<xs.length+ys.length):
 ∃(us:Array Value) (c':Nat),(Builtin.append_ #[T,T'] ty #[ux,uy]).run C.P w= .ok (.slice (some ⟨w.heap.size,0,none⟩) (xs.length+ys.length) c') (w.drew.alloc (.cells us e (0,0)))∧xs.length+ys.length≤c'∧us.size=c'*C.En.sz t∧
  ∀i x,(xs++ys)[i]?=some x→∀j c,(C.En.enc t x)[j]?=some c→V C.En μ H c (us.getD (i*C.En.sz t+j) undef):=by
 obtain⟨i,hi⟩:=zxo hr
 obtain⟨r1,r2,z,hz,hzs⟩:=zsb hi hr
 have hsz:=zvj hs hi
 obtain⟨olds,so,ho⟩:=ztg L hx hu
 obtain⟨news,sn,hn⟩:=ztg L hy hu'
 subst hux
 have hrun:=run_append_grow_src (P:=C.P) w T T' ty e i z hu hi hz ad xs.length cap olds (by rw [hsz];exact so.cellsD) uy ys.length news (by rw [hsz];exact sn) hcap (by omega) (growslice_fits hcap (by omega))
 have hge:=grownCap_ge w (xs.length+ys.length) cap e
 refine⟨_,_,hrun,hge,?_,fun k x hk j c hj=> ?_⟩
 · simp only [Array.size_append,List.size_toArray,List.length_append,size_zeroCells,hzs,hsz,so.newsLen,sn.newsLen,←Nat.add_mul]
   congr 1
   omega
 · have hol:=so.newsLen;have hjl:=(gea hj).1;rw [L.sz]at hjl;have key:∃cv,(olds++news)[k*C.En.sz t+j]?=some cv∧V C.En μ H c cv:=by
    rw [List.getElem?_append]at hk;split at hk
    · rename_i hlt;obtain⟨cv,h1,h2⟩:=ho k x hk j c hj;exact⟨cv,by rw [List.getElem?_append_left (gea h1).1];exact h1,h2⟩
    · rename_i hlt;obtain⟨cv,h1,h2⟩:=hn _ x hk j c hj;refine⟨cv,?_,h2⟩;have e1:k*C.En.sz t=xs.length*C.En.sz t+(k-xs.length)*C.En.sz t:=by
       rw [←Nat.add_mul]
       congr 1
       omega
      rw [List.getElem?_append_right (by omega),←h1]
      congr 1
      omega
   obtain⟨cv,h1,h2⟩:=key;have hlt:=(gea h1).1;rw [agd,Array.getElem?_append_left (by simpa using hlt),List.getElem?_toArray,h1];exact h2
theorem zu5 {T T' ty e:TypeId} {sz:Nat} (hu:C.P.underlying T=some (.slice e)) {ad:Option Addr} {n cap:Nat} {uy:Value} (hn:n≤cap) (hs:zbh C e=some sz) (hy:Src C.P sz T' uy 0 [] w):
 (Builtin.append_ #[T,T'] ty #[.slice ad n cap,uy]).run C.P w= .ok (.slice ad n cap) w:=by
 have hsz:=zga hs w
 rcases hy.kind with⟨e',hk⟩|hk<;>cases ad<;>simp [Builtin.append_,run_underlying hu,run_underlying hk,hsz,hy.len,hn,hy.cells,storeCells]
theorem z6m {sz n:Nat} {news:List Value} {tx:TypeId} {u:Value} (hs:Src C.P sz tx u n news w) (h0:n=0):news=[]:=by
 have:=hs.newsLen
 rw [h0,Nat.zero_mul]at this
 exact List.eq_nil_of_length_eq_zero this
theorem z5x (L:ELaws C.En) (p:Pre C μ H E h a w o) {c:Call} {x y:Operand} {T T' e e':TypeId} (ho:o.op= .call c) (hc:c.callee= .builtin .append) (hargs:c.args.toList=[x,y]) (hT:c.argTypes.toList=[T,T'])
 (hu:C.P.underlying T=some (.slice e)) (hu':C.P.underlying T'=some (.slice e')) {t:U.Ty} (hs:zbh C e=some (C.En.sz t)) (hx:opv C E x= .sc (.slice none 0 0)) {ys:List (U.den t)} (hy:zly h t (opv C E y)=some ys)
 (hr:zh5 C e ys.length=true) {d:Nat} (hk:μ d=none) (hh:zc h d=none):zb3 C μ H E h a w o (.own d 0 .full) (zed h d (.arr 0 t ys)):=by
 have ha:c.args= #[x,y]:=by apply Array.ext';simpa using hargs
 have hym:y∈o.op.operands:=by simp [ho,Op.operands,Call.operands,hc,ha]
 have hux:=(hx▸p.ops x (by simp [ho,Op.operands,Call.operands,hc,ha])).int
 have hey:=zqw p.mem (fun k hk=>p.foot k (zcr (by simp [zar,ho,hc]) hym hk)) (p.ops y hym) hy
 have hex:zqk C.En μ H w t [] (a.eval x):=by
  rw [hux];exact⟨none,0,0,0,rfl,Nat.le_refl _,fun hh=>absurd rfl hh,fun i x hx=>by simp at hx⟩
 have hop:=zue (a:=a) ho hc hargs hT
 by_cases h0:ys=[]
 · subst h0;obtain⟨news,sn,_⟩:=ztg L hey hu';have hn0:=z6m sn rfl;subst hn0;have hrun:=zu5 (ty:=o.type) (ad:=none) (n:=0) (cap:=0) hu (Nat.le_refl _) hs sn;refine zqm L p hk hh (Wd.refl _ w) (l:=⟨false,none,0,0,C.En.sz t,0⟩) (cv:= .slice none 0 0) ?_ (fun b o' ⟨o0,h1,_⟩=>by cases h1) ?_ ?_
   · rw [hop,hux];simp [hrun]
   · exact⟨rfl,rfl,rfl,rfl,rfl,rfl⟩
   · exact .own (Mp.upd_self _ _ _) rfl (Nat.le_refl _) ⟨_,_,_,rfl⟩ fun _=>⟨Nat.le_refl _,rfl,rfl⟩
 · have hpos:0<ys.length:=List.length_pos_iff.2 h0;obtain⟨us,c',hrun,hc',hus,hcs⟩:=zyq (ty:=o.type) L hu hu' hs hex hey (by simpa using hr) (ad:=none) (cap:=0) hux (by simpa using hpos);simp only [List.length_nil,Nat.zero_add,List.nil_append]at hrun hc' hcs;refine zqm L p hk hh ((Wd.draw _ w (w.drawn+1)).trans (zom w.drew _)) (l:=⟨false,some (w.drew.heap.size,0),0,ys.length,C.En.sz t,us.size⟩) (cv:= .slice (some ⟨w.heap.size,0,none⟩) ys.length c') ?_ (fun b o' ⟨o0,h1,_⟩=> ?_)
    (zo3 L (by rw [hus];exact Nat.mul_le_mul_right _ hc') (fun i z hi j cc hj=>(hcs i z hi j cc hj).mono H.le_refl (μ.le_upd _ hk)) w.drew e (0,0) (by simp) 0) ?_
   · rw [hop];simp [hrun]
   · cases h1;have:(w.drew.alloc (.cells us e (0,0))).heap.size=w.heap.size+1:=by unfold World.alloc World.drew;simp
     refine⟨Nat.le_refl _,?_⟩;show w.heap.size<(w.drew.alloc (.cells us e (0,0))).heap.size;omega
   · refine .own (Mp.upd_self _ _ _) rfl (Nat.le_refl _) ⟨_,_,_,rfl⟩ fun _=>⟨by simp [zai.off,zai.len],?_⟩;exact⟨some ⟨w.heap.size,0,none⟩,c',by simp [zai.len],by simp [zai.len];exact hc',fun _=>by simp [zai.off],by simp [zai.off,hus]⟩
theorem zxj (L:ELaws C.En) (p:Pre C μ H E h a w o) {k:Nat} {l l':Loc} (hc:zar C o=2) (hkf:k∈zby C E h o) (hro:C.ro.contains k=false) (hk:μ k=some l) (hb:l.box=false) (hb':l'.box=false) (hv:l.ver<l'.ver) {w':World} {cv:Value}
 (hr:(execOp a.eval o).run C.P w= .ok (.value cv) w') (hw:Wd l.holds w w') (hloc:∀b o,l'.holds b o→l.holds b o∨(w.heap.size≤b∧b<w'.heap.size)) {ob':Ob U} (hob:zcl C.En (μ.upd k l') H w' l' ob') (hV:V C.En (μ.upd k l') H v cv):
 zb3 C μ H E h a w o v (zed h k ob'):=fun next Q hn=>by
 obtain⟨ob,h1,_⟩:=p.foot k hkf l hk
 exact zm5 hr (hn cv _ H w' hV (zadx L p.mem hk hb hb' hv hw hloc hob ⟨hc,hkf,hro⟩ (fun k' l' hk' hl=>p.foot k' hk'.2.1 l' hl) (by rw [h1];simp)))
theorem z5w (L:ELaws C.En) (p:Pre C μ H E h a w o) {c:Call} {x y:Operand} {T T' e e':TypeId} (ho:o.op= .call c) (hc:c.callee= .builtin .append) (hargs:c.args.toList=[x,y]) (hT:c.argTypes.toList=[T,T'])
 (hu:C.P.underlying T=some (.slice e)) (hu':C.P.underlying T'=some (.slice e')) {t:U.Ty} (hs:zbh C e=some (C.En.sz t)) {key ver:Nat} {ww:zai} (hx:opv C E x= .own key ver ww) {xs ys:List (U.den t)} (hg:zc h key=some (.arr ver t xs))
 (hy:zly h t (opv C E y)=some ys) (hr:zh5 C e ((zbu ww xs).length+ys.length)=true) (hro:C.ro.contains key=false):zb3 C μ H E h a w o (.own key (ver+1) .full) (zed h key (.arr (ver+1) t (zbu ww xs++ys))):=by
 have ha:c.args= #[x,y]:=by apply Array.ext';simpa using hargs
 have hxm:x∈o.op.operands:=by simp [ho,Op.operands,Call.operands,hc,ha]
 have hym:y∈o.op.operands:=by simp [ho,Op.operands,Call.operands,hc,ha]
 have hcls:zar C o=2:=by simp [zar,ho,hc]
 have hkf:key∈zby C E h o:=zcr (by simp [zar,ho,hc]) hxm (by simp [hx,zdn,zc4])
 have hey:=zqw p.mem (fun k hk=>p.foot k (zcr (by simp [zar,ho,hc]) hym hk)) (p.ops y hym) hy
 have hop:=zue (a:=a) ho hc hargs hT
 have hVx:=hx▸p.ops x hxm
 obtain⟨l,hl,hb,hown,hobl⟩:∃l,μ key=some l∧l.box=false∧zol l ww (a.eval x)∧zcl C.En μ H w l (.arr ver t xs):=by
  cases hVx with
  | own hl hb hv hpp hh=>
   obtain⟨ob,g1,g2⟩:=p.foot key hkf _ hl;rw [hg]at g1;cases g1;exact⟨_,hl,hb,hh g2.2.1.symm,g2⟩
 have hex:=zth hobl hl hVx
 obtain⟨news,sn,hnews⟩:=ztg L hey hu'
 obtain⟨q1,q2,q3,q4,q5⟩:=hobl
 obtain⟨f1,f2⟩:=hown
 have hvl:(zbu ww xs).length=ww.len xs.length:=ww.of_length xs (by rw [←q3];exact f1)
 obtain⟨ad,cap,b0,o0,hux,hlc,had,hold⟩:=hex
 have h1:0<C.En.sz t:=L.pos t
 by_cases hfit:(zbu ww xs).length+ys.length≤cap
 · by_cases hcap:cap=0
   · have hx0:(zbu ww xs).length=0:=by omega
     have hy0:ys.length=0:=by omega
     have e1:zbu ww xs=[]:=List.eq_nil_of_length_eq_zero hx0;have e2:ys=[]:=List.eq_nil_of_length_eq_zero hy0;have hn0:=z6m sn hy0;subst hn0 e2;have hux':a.eval x= .slice ad 0 0:=by rw [hux,hx0,hcap]
     rw [List.length_nil]at sn;have hrun:=zu5 (ty:=o.type) (ad:=ad) (n:=0) (cap:=0) hu (Nat.le_refl _) hs sn;refine zxj L p hcls hkf hro hl hb (l':=⟨false,some (0,0),ver+1,0,C.En.sz t,0⟩) rfl (by simp only;omega) (cv:= .slice ad 0 0) (by rw [hop,hux'];simp [hrun]) (Wd.refl _ w) (fun b o' ⟨o1,h1,h2,h3⟩=>by simp only at h3;cases h1;omega) ?_ ?_
     · rw [e1];refine⟨rfl,rfl,rfl,rfl,?_⟩;exact⟨by simp,fun j hj=>by simp at hj,fun i z hz=>by simp at hz⟩
     · exact .own (Mp.upd_self _ _ _) rfl (Nat.le_refl _) ⟨_,_,_,rfl⟩ fun _=>⟨by simp [zai.off,zai.len],ad,0,rfl,Nat.le_refl _,fun hh=>absurd rfl hh,by simp [zai.off]⟩
   · cases hat:l.at_ with
     | none=>
      simp only [hat]at f2;obtain⟨f3,_⟩:=f2;rw [hux]at f3;injection f3 with _ _ f3;exact absurd f3 hcap
     | some q=>
      obtain⟨b,o'⟩:=q;simp only [hat]at f2 q5;obtain⟨ad',cap',f3,f4,f5,f6⟩:=f2;rw [hux]at f3;injection f3 with g1 g2 g3;subst g1 g3;have hadr:=f5 hcap;subst hadr;obtain⟨q6,q7,q8⟩:=q5;rw [q4]at f6 hux;obtain⟨i,hi⟩:=zxo hr;have hsz:=zvj hs hi;have hnl:=sn.newsLen;have hq:(zbu ww xs).length*C.En.sz t+ys.length*C.En.sz t≤cap*C.En.sz t:=by
       rw [←Nat.add_mul];exact Nat.mul_le_mul_right _ hfit
      rw [Nat.add_mul]at f6;have hcells:∀j,j<news.length→(w.cell? ⟨b,o'+ww.off*C.En.sz t+(zbu ww xs).length*C.En.sz t+j,none⟩).isSome=true∧w.frozen? ⟨b,o'+ww.off*C.En.sz t+(zbu ww xs).length*C.En.sz t+j,none⟩=false:=fun j hj=>by
       have:=q7 (ww.off*C.En.sz t+(zbu ww xs).length*C.En.sz t+j) (by omega);rw [show o'+ww.off*C.En.sz t+(zbu ww xs).length*C.En.sz t+j=o'+(ww.off*C.En.sz t+(zbu ww xs).length*C.En.sz t+j)by omega];exact this
      have hrun:=run_append_room_src (P:=C.P) w T T' o.type e i hu hi b (o'+ww.off*C.En.sz t) (zbu ww xs).length cap (a.eval y) ys.length news (by rw [hsz];exact sn) hfit (fun j hj=>by rw [hsz];exact(hcells j hj).1) (fun j hj=>by rw [hsz];exact(hcells j hj).2);rw [hsz]at hrun;have hle:=μ.le_upd_ver (l':=⟨false,some (b,o'+ww.off*C.En.sz t),ver+1,(zbu ww xs).length+ys.length,C.En.sz t,cap*C.En.sz t⟩) hl hb rfl (by rw [q2];simp);refine zxj L p hcls hkf hro hl hb (l':=⟨false,some (b,o'+ww.off*C.En.sz t),ver+1,(zbu ww xs).length+ys.length,C.En.sz t,cap*C.En.sz t⟩) rfl (by rw [q2];simp) (w':=w.setCells b (o'+ww.off*C.En.sz t+(zbu ww xs).length*C.En.sz t) news) (cv:= .slice (some ⟨b,o'+ww.off*C.En.sz t,none⟩) ((zbu ww xs).length+ys.length) cap) (by rw [hop,hux];simp [hrun])
       (zlc _ b _ _ w fun j hj=>⟨o',hat,by omega,by omega⟩) (fun b1 o1 ⟨o2,h1,h2,h3⟩=> .inl ?_) ?_ ?_
      · cases h1;simp only at h2 h3;exact⟨o',hat,by omega,by omega⟩
      · refine⟨rfl,rfl,by simp,rfl,?_⟩;refine⟨by rw [List.length_append,Nat.add_mul];exact hq,fun j hj=> ?_,fun k z hz j cc hj=> ?_⟩
        · simp only at hj;have:=q7 (ww.off*C.En.sz t+j) (by omega);rw [show o'+ww.off*C.En.sz t+j=o'+(ww.off*C.En.sz t+j)by omega];exact⟨World.isSome_setCells _ _ _ _ _ this.1,by rw [World.frozen?_setCells];exact this.2⟩
        · have hjl:=(gea hj).1;rw [L.sz]at hjl;rw [List.getElem?_append]at hz;split at hz
          · rename_i hlt;have hlt2:=zmo hlt hjl;obtain⟨cv,r1,r2⟩:=q8 _ z (ww.of_get xs k z hz) j cc hj;refine⟨cv,?_,r2.mono H.le_refl hle⟩;rw [World.cell?_setCells_out _ _ _ _ _ (fun _ _=>by simp only;omega),←r1]
            congr 2
            rw [Nat.add_mul];omega
          · rename_i hlt;obtain⟨cv,r1,r2⟩:=hnews _ z hz j cc hj;have hjn:=(gea r1).1;have:=World.cell?_setCells_in b news (o'+ww.off*C.En.sz t+(zbu ww xs).length*C.En.sz t) w (fun k hk=>(hcells k hk).1) _ hjn;refine⟨cv,?_,r2.mono H.le_refl hle⟩;have e1:k*C.En.sz t=(zbu ww xs).length*C.En.sz t+(k-(zbu ww xs).length)*C.En.sz t:=by
             rw [←Nat.add_mul]
             congr 1
             omega
            rw [show o'+ww.off*C.En.sz t+(k*C.En.sz t+j)=o'+ww.off*C.En.sz t+(zbu ww xs).length*C.En.sz t+((k-(zbu ww xs).length)*C.En.sz t+j)by omega,this,←r1];exact(lga hjn).symm
      · refine .own (Mp.upd_self _ _ _) rfl (Nat.le_refl _) ⟨_,_,_,rfl⟩ fun _=>⟨by simp [zai.off,zai.len],?_⟩;exact⟨some ⟨b,o'+ww.off*C.En.sz t,none⟩,cap,by simp [zai.len],by simp [zai.len];exact hfit,fun _=>by simp [zai.off],by simp [zai.off]⟩
 · obtain⟨us,c',hrun,hc',hus,hcs⟩:=zyq (ty:=o.type) L hu hu' hs (zth ⟨q1,q2,q3,q4,q5⟩ hl hVx) hey hr hux (by omega);have hsz:(w.drew.alloc (.cells us e (0,0))).heap.size=w.heap.size+1:=by unfold World.alloc World.drew;simp
   have hle:=μ.le_upd_ver (l':=⟨false,some (w.drew.heap.size,0),ver+1,(zbu ww xs++ys).length,C.En.sz t,us.size⟩) hl hb rfl (by rw [q2];simp);refine zxj L p hcls hkf hro hl hb (l':=⟨false,some (w.drew.heap.size,0),ver+1,(zbu ww xs++ys).length,C.En.sz t,us.size⟩) rfl (by rw [q2];simp) (w':=w.drew.alloc (.cells us e (0,0))) (cv:= .slice (some ⟨w.heap.size,0,none⟩) ((zbu ww xs).length+ys.length) c') (by rw [hop];simp [hrun])
    (((Wd.draw _ w (w.drawn+1)).trans (zom w.drew _)).weaken fun _ _ _ hf=>hf.elim) (fun b1 o1 ⟨o2,h1,h2,h3⟩=> .inr ?_)
    (zo3 L (by rw [hus,List.length_append];exact Nat.mul_le_mul_right _ hc') (fun i z hi j cc hj=>(hcs i z hi j cc hj).mono H.le_refl hle) w.drew e (0,0) (by simp) (ver+1)) ?_
   · cases h1;refine⟨Nat.le_refl _,?_⟩;show w.heap.size<(w.drew.alloc (.cells us e (0,0))).heap.size;omega
   · refine .own (Mp.upd_self _ _ _) rfl (Nat.le_refl _) ⟨_,_,_,rfl⟩ fun _=>⟨by simp [zai.off,zai.len],?_⟩;exact⟨some ⟨w.heap.size,0,none⟩,c',by simp [zai.len],by simp [zai.len];exact hc',fun _=>by simp [zai.off],by simp [zai.off,hus]⟩
end
section
variable {U:Uni} {C:Ctx U} {μ:Mp} {H:Fz} {E:List (AV U)} {h h':za U} {a:Act} {w:World} {o:Oper} {v:AV U}
theorem zlt (L:ELaws C.En) {t:U.Ty} {x:U.den t} (hr:zkd C h t v=some x):v.plain=true∧(v.cells.map (zem h)).length=C.En.sz t∧
 ∀(j:Nat) c c',(v.cells.map (zem h))[j]?=some c→(C.En.enc t x)[j]?=some c'→Ref c c':=by
 unfold zkd at hr
 cases ha:C.En.agg t with
 | true=>
  rw [ha]at hr;cases v with
  | agg cs=>
   simp only at hr;obtain⟨h1,h2⟩:=L.reify _ _ _ hr;exact⟨rfl,h1,h2⟩
  | _=>simp at hr
 | false=>
  rw [ha]at hr;have key:∀u:AV U,C.En.reify t [zem h u]=some x→(∃c',Fzc c'∧Ref (zem h u) c')∧[zem h u].length=C.En.sz t∧∀(j:Nat) c c',[zem h u][j]?=some c→(C.En.enc t x)[j]?=some c'→Ref c c':=by
   intro u hu;obtain⟨h1,h2⟩:=L.reify _ _ _ hu;have h0:0<(C.En.enc t x).length:=by rw [L.sz];exact L.pos t
   exact⟨⟨_,L.fz t x _ (List.getElem_mem h0),h2 0 _ _ rfl (lga h0)⟩,h1,h2⟩
  have nf:∀u:AV U,(∃c',Fzc c'∧Ref u c')→(∃v,u= .sc v∧v.oneCell'=true)∨∃t xs,u= .lst t xs:=by
   rintro u ⟨c',hf,rfl|⟨rfl,_⟩⟩
   · exact hf
   · exact .inl ⟨_,rfl,rfl⟩
  cases v with
  | agg cs=>simp at hr
  | sc u=>
   obtain⟨k1,k2,k3⟩:=key _ hr;refine⟨?_,k2,k3⟩;rcases nf _ k1 with⟨u',h1,h2⟩|⟨t',xs,h1⟩
   · cases h1;cases u<;>first|rfl|cases h2
   · cases h1
  | dead=>
   obtain⟨k1,_⟩:=key _ hr;rcases nf _ k1 with⟨u',h1,h2⟩|⟨t',xs,h1⟩<;>cases h1
  | tup vs=>
   obtain⟨k1,_⟩:=key _ hr;rcases nf _ k1 with⟨u',h1,h2⟩|⟨t',xs,h1⟩<;>cases h1
  | _=>
   obtain⟨k1,k2,k3⟩:=key _ hr;exact⟨rfl,k2,k3⟩
def zq6 (ps:List (Nat × AV U)) (i:Nat):Option (AV U):=(ps.find? (fun p=>Nat.beq p.1 i)).map (·.2)
theorem z4a {s:Nat} (hs:0<s) {n:Nat}:∀(ps:List (Nat × AV U)) (cs:List (AV U)),(∀p∈ps,p.2.plain=true∧p.2.cells.length=s∧p.1<n)→zgh ps=true→cs.length=n*s→
 ∃cs',ztd (fun i=>some (i*s,s)) ps cs=some cs'∧cs'.length=n*s∧∀i j,j<s→cs'[i*s+j]?=match zq6 ps i with|some v=>v.cells[j]?|none=>cs[i*s+j]?
 | [],cs,_,_,hl=>⟨cs,rfl,hl,fun i j hj=>rfl⟩
 | (q,v)::ps,cs,hp,hd,hl=>by
  obtain⟨h1,h2,h3⟩:=hp _ msa;simp only at h1 h2 h3;simp only [zgh,baa]at hd;have hle:q*s+s≤cs.length:=by
   rw [hl];have:(q+1)*s≤n*s:=Nat.mul_le_mul_right _ h3;rw [Nat.add_mul]at this;omega
  obtain⟨cs',r1,r2,r3⟩:=z4a hs ps (zkb cs (q*s) v.cells) (fun p hp'=>hp p (mca _ hp')) hd.2 (by rw [zmm (by omega),hl]);refine⟨cs',?_,r2,fun i j hj=> ?_⟩
  · unfold ztd;simp only [h1,h2,zca,decide_true,Bool.true_and];rw [show Nat.ble (q*s+s) cs.length=true from Nat.ble_eq_true_of_le hle];exact r1
  · rw [r3 i j hj];unfold zq6;rw [List.find?_cons]
    by_cases e:q=i
    · subst e;simp only [zca,decide_true];have hno:ps.find? (fun p=>decide (p.1=q))=none:=by
       rw [List.find?_eq_none];intro p hp' hc;have:=lat hd.1 p hp';simp [zca]at this;simp at hc;exact this hc
      rw [hno];simp only [Option.map_none,Option.map_some];rw [zl8 (by omega),if_pos ⟨by omega,by omega⟩]
      congr 1
      omega
    · have:Nat.beq q i=false:=by simp [zca,e]
      simp only [this];cases ps.find? (fun p=>Nat.beq p.1 i)with
      | some p=>rfl
      | none=>
       simp only [Option.map_none];rw [zl8 (by omega),if_neg];intro⟨g1,g2⟩;rcases Nat.lt_or_gt_of_ne e with hlt|hlt
       · have:(q+1)*s≤i*s:=Nat.mul_le_mul_right _ hlt;rw [Nat.add_mul]at this;omega
       · have:(i+1)*s≤q*s:=Nat.mul_le_mul_right _ hlt;rw [Nat.add_mul]at this;omega
theorem zxq {t:U.Ty} {zs:List (AV U)} {ps:List (Nat × AV U)}:∀(n i:Nat) (xs:List (U.den t)),zon C h t zs ps i n=some xs→xs.length=n∧∀j x,xs[j]?=some x→
 (match zq6 ps (i+j)with|some v=>zkd C h t v|none=>C.En.reify t zs)=some x
 | 0,i,xs,hr=>by cases hr;exact⟨rfl,fun j x hj=>by simp at hj⟩
 | n+1,i,xs,hr=>by
  unfold zon at hr;rw [oba]at hr;obtain⟨x,h1,hr⟩:=hr;rw [oba]at hr;obtain⟨l,h2,hr⟩:=hr;cases hr;obtain⟨h3,h4⟩:=zxq n (i+1) l h2;refine⟨by simp [h3],fun j y hj=> ?_⟩;cases j with
  | zero=>
   cases hj;unfold zq6;rw [Nat.add_zero,←h1];cases ps.find? (fun p=>Nat.beq p.1 i)<;>rfl
  | succ j=>
   have:=h4 j y (by simpa using hj);rw [show i+(j+1)=i+1+j by omega];exact this
theorem z1x:∀{ps:List (Nat × AV U)},zgh ps=true→∀q∈ps,zq6 ps q.1=some q.2
 | [],_,q,hq=>by simp at hq
 | (i,v)::ps,hd,q,hq=>by
  simp only [zgh,baa]at hd;unfold zq6;rw [List.find?_cons];rcases mco hq with rfl|hq
  · simp [zca]
  · have h1:=lat hd.1 q hq;simp only [zca,Bool.not_eq_true',decide_eq_false_iff_not]at h1;have:Nat.beq i q.1=false:=by
     rw [zca];exact decide_eq_false fun e=>h1 e.symm
    simp only [this];exact z1x hd.2 q hq
theorem zaa1 (z:Array Value):madeCells z 0= #[]:=by simp [madeCells]
theorem zu1 (L:ELaws C.En) (p:Pre C μ H E h a w o) {T e:TypeId} {len:Nat} {parts:Array (Nat × Operand)} (ho:o.op= .buildSlice T len parts) (hu:C.P.underlying T=some (.slice e)) {t:U.Ty} (hs:zbh C e=some (C.En.sz t)) {zs:List (AV U)} (hz:zel C e=some zs)
 (hd:zgh (parts.toList.map fun p=>(p.1,opv C E p.2))=true) (hl:∀q∈(parts.toList.map fun p=>(p.1,opv C E p.2)),q.1<len) (hbig:len*C.En.sz t≤2^24) (hno:∀q∈(parts.toList.map fun p=>(p.1,opv C E p.2)),zfl q.2=[])
 {xs:List (U.den t)} (hx:zon C h t zs (parts.toList.map fun p=>(p.1,opv C E p.2)) 0 len=some xs):
 ∃us:Array Value,(execOp a.eval o).run C.P w= .ok (.value (.slice (some ⟨w.heap.size,0,none⟩) len len)) (w.alloc (.cells us e (0,0)))∧us.size=len*C.En.sz t∧xs.length=len∧
  ∀i x,xs[i]?=some x→∀j c,(C.En.enc t x)[j]?=some c→V C.En μ H c (us.getD (i*C.En.sz t+j) undef):=by
 have hm:∀x∈parts.toList,x.2∈o.op.operands:=by
  intro x hx;rw [ho];simp only [Op.operands];exact List.mem_toArray.2 (List.mem_map.2 ⟨x,hx,rfl⟩)
 have hps:=z6h p hm
 have hlen:(parts.toList.map fun p=>(p.1,opv C E p.2)).length=((parts.map fun(i,x)=>(i,a.eval x)).toList).length:=by simp
 obtain⟨i,zv,h1,h2,rfl⟩:=zjy hz
 have hsz:=zvj hs h1
 obtain⟨hxl,hxg⟩:=zxq _ _ _ hx
 simp only [Nat.zero_add]at hxg
 have hpl:∀q∈(parts.toList.map fun p=>(p.1,opv C E p.2)),q.2.plain=true∧q.2.cells.length=C.En.sz t∧q.1<len:=by
  intro q hq;have hlt:=hl q hq;have:=hxg q.1 _ (lga (by omega));rw [z1x hd q hq]at this;obtain⟨r1,r2,_⟩:=zlt L this;exact⟨r1,by simpa using r2,hlt⟩
 obtain⟨cs',f1,f2,f3⟩:=z4a (L.pos t) (parts.toList.map fun p=>(p.1,opv C E p.2)) ((madeCells zv.cells (len*C.En.sz t)).toList.map .sc) hpl hd (by simp [size_madeCells])
 obtain⟨us,g1,g2⟩:=zrx _ (fun i=>some (i*C.En.sz t,C.En.sz t)) (fun _ _ h=>h) _ _ _ _ _ hlen hps (zr0 (madeCells zv.cells (len*C.En.sz t)) μ H) f1
 refine⟨us,?_,by rw [←g2.1,f2],hxl,fun k x hk j c hj=> ?_⟩
 · have hnb:¬16777216<len*C.En.sz t:=by
    have:(2:Nat)^24=16777216:=rfl;omega
   have g1':Instr.fill (fun i=>some (i*C.En.sz t,C.En.sz t)) (madeCells zv.cells (len*C.En.sz t)) (List.map (fun x=>(x.fst,a.eval x.snd)) parts.toList)=some us:=by rw [Array.toList_map]at g1;exact g1
   by_cases h0:len*C.En.sz t=0
   · rw [h0,zaa1]at g1';have:len=0∨C.En.sz t=0:=Nat.mul_eq_zero.1 h0;simp [execOp,ho,Instr.buildSlice,run_underlying hu,zga hs,h0,hnb,newRow];rw [show((Array.range 0).map fun _:Nat=>(default:Value))= #[]by simp,g1'];simp
   · simp [execOp,ho,Instr.buildSlice,run_underlying hu,zga hs,h0,hnb,zeroValue,typeInfo,h1,h2,newRow];unfold madeCells at g1';rw [g1'];simp
 · have hkl:=(gea hk).1;have hjl:=(gea hj).1;rw [L.sz]at hjl;have h3:=f3 k j hjl;have h4:=hxg k x hk;cases hpa:zq6 (parts.toList.map fun p=>(p.1,opv C E p.2)) k with
   | some v=>
    rw [hpa]at h3 h4;simp only at h3 h4;obtain⟨r1,r2,r3⟩:=zlt L h4;have hov:zfl v=[]:=by
     unfold zq6 at hpa;rw [oma]at hpa;obtain⟨q,hq,rfl⟩:=hpa;exact hno q (List.mem_of_find?_eq_some hq)
    rw [zze hov]at r2 r3;have h5:v.cells[j]?=some (v.cells[j]'(by omega)):=lga _;rw [h5]at h3;exact V.ref (g2.2 _ _ h3) (r3 j _ c h5 hj)
   | none=>
    rw [hpa]at h3 h4;simp only at h3 h4;obtain⟨r1,r2⟩:=L.reify _ _ _ h4;have hzs:zv.cells.size=C.En.sz t:=by simpa using r1
    have hg:=z6q zv.cells len k j (by omega) (by omega);rw [hzs]at hg;have hlt:=zmo (show k<len by omega) hjl;have h5:((madeCells zv.cells (len*C.En.sz t)).toList.map (AV.sc (U:=U)))[k*C.En.sz t+j]?=some (.sc (zv.cells.getD j undef)):=by
     rw [gem,zmv _ _ (by rw [size_madeCells];exact hlt),hg];rfl
    rw [h5]at h3;have hcz:(zv.cells.toList.map (AV.sc (U:=U)))[j]?=some (.sc (zv.cells.getD j undef)):=by
     rw [gem,zmv _ _ (by omega)];rfl
    exact V.ref (g2.2 _ _ h3) (r2 j _ c hcz hj)
theorem z5v (L:ELaws C.En) (p:Pre C μ H E h a w o) {T e:TypeId} {len:Nat} {parts:Array (Nat × Operand)} (ho:o.op= .buildSlice T len parts) (hu:C.P.underlying T=some (.slice e)) {t:U.Ty} (hs:zbh C e=some (C.En.sz t)) {zs:List (AV U)} (hz:zel C e=some zs)
 (hd:zgh (parts.toList.map fun p=>(p.1,opv C E p.2))=true) (hl:∀q∈(parts.toList.map fun p=>(p.1,opv C E p.2)),q.1<len) (hbig:len*C.En.sz t≤2^24) (hno:∀q∈(parts.toList.map fun p=>(p.1,opv C E p.2)),zfl q.2=[])
 {xs:List (U.den t)} (hx:zon C h t zs (parts.toList.map fun p=>(p.1,opv C E p.2)) 0 len=some xs) {d:Nat} (hk:μ d=none) (hh:zc h d=none):zb3 C μ H E h a w o (.own d 0 .full) (zed h d (.arr 0 t xs)):=by
 obtain⟨us,hrun,h1,h2,h3⟩:=zu1 L p ho hu hs hz hd hl hbig hno hx
 refine zq2 L p hk hh (Wd.refl _ w) (l:=⟨false,some (w.heap.size,0),0,xs.length,C.En.sz t,us.size⟩) hrun rfl (Nat.le_refl _) (zo3 L (by rw [h1,h2];exact Nat.le_refl _) (fun i x hi j c hj=>(h3 i x hi j c hj).mono H.le_refl (μ.le_upd _ hk)) w e (0,0) (by simp) 0) ?_
 refine .own (Mp.upd_self _ _ _) rfl (Nat.le_refl _) ⟨_,_,_,rfl⟩ fun _=>⟨by simp [zai.off,zai.len],?_⟩
 exact⟨some ⟨w.heap.size,0,none⟩,len,by simp [zai.len,h2],by simp [zai.len,h2],fun _=>by simp [zai.off],by simp [zai.off,h1]⟩
def frz (H:Fz) (b:Nat) (us:Array Value):Fz:=fun b' o=>if b'=b then us[o]? else H b' o
theorem zac5 (hm:Mem μ H w) (us:Array Value):H.le (frz H w.heap.size us):=fun b o v hv=>by
 have:=zgo (hm.frz b o v hv)
 unfold frz
 rw [if_neg (by simp only at this;omega)]
 exact hv
theorem zadz (L:ELaws C.En) (hm:Mem μ H w) (us:Array Value) (t:TypeId):After C zup μ H h w h μ (frz H w.heap.size us) (w.alloc (.cells us t (0,0))) where
 leH:=zac5 hm us
 leM:=μ.le_refl
 mem:={
  frz:=fun b o v hv=>by
   unfold frz at hv;split at hv
   · rename_i e;subst e;rw [znz];exact hv
   · rw [(zom w _).cell (zgo (hm.frz b o v hv)) (by simp)];exact hm.frz b o v hv
  apart:=hm.apart
  free:=fun k l b o h1 h2=>by
   have:=hm.inside k l b o h1 h2;unfold frz;rw [if_neg (by omega)];exact hm.free k l b o h1 h2
  inside:=fun k l b o h1 h2=>Nat.lt_of_lt_of_le (hm.inside k l b o h1 h2) (zom w _).size}
 wd:=(zom w _).weaken fun _ _ _ hf=>hf.elim
 same:=fun k _ _=>⟨rfl,rfl⟩
 objs:=fun k l' hk _=>by
  rcases hk with hk|⟨h1,h2⟩
  · exact hk.elim
  · exact absurd h1 h2
 frzNew:=fun b o hb=>by
  unfold frz at hb;split at hb
  · rename_i e;exact .inr (.inl (by omega))
  · exact .inl hb
 locNew:=fun k l' b o h1 h2=> .inl ⟨l',h1,h2⟩
theorem zz9 (L:ELaws C.En) (p:Pre C μ H E h a w o) {T e:TypeId} {len:Nat} {parts:Array (Nat × Operand)} (ho:o.op= .buildSlice T len parts) (hu:C.P.underlying T=some (.slice e)) {t:U.Ty} (hs:zbh C e=some (C.En.sz t)) {zs:List (AV U)} (hz:zel C e=some zs)
 (hd:zgh (parts.toList.map fun p=>(p.1,opv C E p.2))=true) (hl:∀q∈(parts.toList.map fun p=>(p.1,opv C E p.2)),q.1<len) (hbig:len*C.En.sz t≤2^24) (hno:∀q∈(parts.toList.map fun p=>(p.1,opv C E p.2)),zfl q.2=[])
 {xs:List (U.den t)} (hx:zon C h t zs (parts.toList.map fun p=>(p.1,opv C E p.2)) 0 len=some xs):zb3 C μ H E h a w o (.lst t xs) h:=fun next Q hn=>by
 obtain⟨us,hrun,h1,h2,h3⟩:=zu1 L p ho hu hs hz hd hl hbig hno hx
 have ha:=zadz (h:=h) L p.mem us e
 refine zm5 hrun (hn _ μ _ _ ?_ (ha.weaken (fun k hk=>hk.elim) fun k' l' hk' _ hl=>p.foot' L ha hk'.2.1 hl))
 refine .lst (b:=w.heap.size) (o:=0) h2.symm (Nat.le_refl _) (fun _=>rfl) (fun i j=>us.getD (i*C.En.sz t+j) undef) (fun i x hi j c hj=> ?_) (fun i x hi j c hj=>(h3 i x hi j c hj).mono (zac5 p.mem us) μ.le_refl)
 have hil:=(gea hi).1
 have hjl:=(gea hj).1
 rw [L.sz]at hjl
 have hlt:=zmo hil hjl
 rw [h2,←h1]at hlt
 unfold frz
 rw [if_pos rfl,Nat.zero_add]
 simp [Array.getD,hlt]
end
section
variable {U:Uni} {C:Ctx U} {μ:Mp} {H:Fz} {E:List (AV U)} {h h':za U} {a:Act} {w:World} {o:Oper} {v:AV U}
def Cel (C:Ctx U) (μ:Mp) (H:Fz) (xs:List (AV U)) (x:Value) (t:TypeId):Prop:=
 match zec C t with
 | some true=>∃us,x= .agg us∧∀n,zbh C t=some n→∀j,j<n→∀c,xs[j]?=some c→j<us.size∧V C.En μ H c (us.getD j undef)
 | some false=>∀c,xs.head?=some c→V C.En μ H c x
 | none=>False
theorem z4w {t:TypeId} {fs:Array Field} (hu:C.P.underlying t=some (.struct fs)):zec C t=some true:=by simp [zec,hu]
theorem z6i {t f:TypeId} {xs:List (AV U)} {us:Array Value} {off s n:Nat} (hf:zbh C f=some s) (hs:1≤s) (hle:off+s≤n) (hc:∀j,j<n→∀c,xs[j]?=some c→j<us.size∧V C.En μ H c (us.getD j undef))
 (hag:zec C f≠none) (hx:zec C f=some false→xs[off]?≠none):∃x,(part f us off).run C.P w= .ok x w∧Cel C μ H (xs.drop off) x f:=by
 cases hb:zec C f with
 | none=>exact absurd hb hag
 | some b=>
  cases b with
  | true=>
   refine⟨.agg (us.extract off (off+s)),by simp [part,Sem.run_bind,zf6 hb,zga hf],?_⟩;unfold Cel;rw [hb];refine⟨_,rfl,fun m hm j hj c hjc=> ?_⟩;rw [hf]at hm;cases hm;rw [List.getElem?_drop]at hjc;obtain⟨h1,h2⟩:=hc (off+j) (by omega) c hjc;have hsz:j<(us.extract off (off+s)).size:=by simp;omega
   refine⟨hsz,?_⟩;have e:(us.extract off (off+s)).getD j undef=us.getD (off+j) undef:=by
    simp only [agd,Array.getElem?_extract]
    congr 1
    rw [if_pos (by omega)]
   rw [e];exact h2
  | false=>
   have hne:=hx hb;cases hxo:xs[off]? with
   | none=>exact absurd hxo hne
   | some c=>
    obtain⟨h1,h2⟩:=hc off (by omega) c hxo;refine⟨us.getD off undef,by simp [part,Sem.run_bind,zf6 hb,h1,Array.getD],?_⟩;unfold Cel;rw [hb];intro c' hc';rw [List.head?_drop,hxo]at hc';cases hc';exact h2
theorem z7m (l m:List Bool):zdq (l++m)=(zdq l&&zdq m):=by
 induction l with
 | nil=>simp [zdq]
 | cons b l ih=>simp [zdq,ih,Bool.and_assoc]
theorem zahk {n:Nat} {t:TypeId} {xs ys:List (AV U)} {l:List Bool} (h:eqL C n t xs ys=some l):(zec C t≠none)∧(zec C t=some false→xs.head?≠none∧ys.head?≠none):=by
 cases n with
 | zero=>cases h
 | succ n=>
  unfold eqL at h;unfold zec;split at h<;>rename_i hu<;>try (cases h;done)
  all_goals simp only [hu]
  · refine⟨by simp,fun _=> ?_⟩;split at h
    · rename_i h1 h2;rw [h1,h2];simp
    · cases h
  · refine⟨by simp,fun _=> ?_⟩;split at h
    · rename_i h1 h2;rw [h1,h2];simp
    · cases h
  · refine⟨by simp,fun _=> ?_⟩;split at h
    · rename_i h1 h2;rw [h1,h2];simp
    · cases h
  · simp
theorem zadt (a b:ByteArray):(a.toList==b.toList)=(a==b):=(beq_toListBytes a b).symm
theorem z9n:∀(n d:Nat) (t:TypeId) (xs ys:List (AV U)) (l:List Bool),n≤d→eqL C n t xs ys=some l→∀(x y:Value),Cel C μ H xs x t→Cel C μ H ys y t→(Op.equalIn d t x y).run C.P w= .ok (zdq l) w
 | 0,_,_,_,_,_,_,h,_,_,_,_=>by cases h
 | n+1,0,_,_,_,_,hd,_,_,_,_,_=>by omega
 | n+1,d+1,t,xs,ys,l,hd,h,x,y,hx,hy=>by
  unfold eqL at h;split at h<;>rename_i hu<;>try (cases h;done)
  · have hb:zec C t=some false:=by simp [zec,hu]
    unfold Cel at hx hy;rw [hb]at hx hy;split at h
    · rename_i k a k' b e1 e2;split at h
      · rename_i hk;subst hk;cases h;rw [(hx _ e1).int,(hy _ e2).int];rw [run_equalIn_int w d t _ _ a b hu];simp [zdq]
      · cases h
    · cases h
  · have hb:zec C t=some false:=by simp [zec,hu]
    unfold Cel at hx hy;rw [hb]at hx hy;split at h
    · rename_i a b e1 e2;cases h;rw [(hx _ e1).int,(hy _ e2).int,run_equalIn_bool' w d t a b hu];simp [zdq]
    · cases h
  · have hb:zec C t=some false:=by simp [zec,hu]
    unfold Cel at hx hy;rw [hb]at hx hy;split at h
    · rename_i a b e1 e2;cases h;rw [(hx _ e1).int,(hy _ e2).int,run_equalIn_string w d t a b hu,zadt];simp [zdq]
    · cases h
  · rename_i fs;have hb:=z4w hu;unfold Cel at hx hy;rw [hb]at hx hy;obtain⟨us,rfl,hx⟩:=hx;obtain⟨vs,rfl,hy⟩:=hy;cases hsz:zbh C t with
    | none=>simp [hsz]at h
    | some sz=>
     rw [hsz]at h;have hx:=hx sz hsz;have hy:=hy sz hsz;cases hst:C.P.stoodInHeld t with
     | true=>simp [hst]at h
     | false=>
      simp only [hst,cond_false]at h;have hfo:C.P.fieldsOf t=fs:=by simp [Program.fieldsOf,hu]
      rw [run_equalIn_struct w d t us vs (by rw [hfo];exact hu) hst,hfo];clear hu hfo hst hb
      revert h l
      induction fs.toList with
      | nil=>intro l h;cases h;simp [Op.eqFields,zdq]
      | cons f fl ih=>
       intro l h;simp only [List.foldr_cons]at h;cases hn:f.name== "_" with
       | true=>simp [hn]at h
       | false=>
        simp only [hn,cond_false]at h;cases hfs:zbh C f.type with
        | none=>simp [hfs]at h
        | some s=>
         simp only [hfs]at h;cases hle:(Nat.ble (f.offset+s) sz&&Nat.ble 1 s)with
         | false=>simp [hle]at h
         | true=>
          simp only [hle,cond_true]at h;simp only [baa]at hle;have hl1:=Nat.le_of_ble_eq_true hle.1;have hl2:=Nat.le_of_ble_eq_true hle.2;split at h
          · rename_i la lb ea eb;cases h;obtain⟨g1,g2⟩:=zahk ea;obtain⟨x',hx1,hx2⟩:=z6i (w:=w) (t:=t) hfs hl2 hl1 hx g1 (fun hf=>by have:=(g2 hf).1;rwa [List.head?_drop]at this);obtain⟨y',hy1,hy2⟩:=z6i (w:=w) (t:=t) hfs hl2 hl1 hy g1 (fun hf=>by have:=(g2 hf).2;rwa [List.head?_drop]at this);have hr:=z9n n d f.type _ _ la (by omega) ea x' y' hx2 hy2;have hne:f.name≠ "_" :=by simpa using hn
            simp only [Op.eqFields,if_pos hne,Sem.run_bind,hx1,hy1,hr,Result.andThen_ok];rw [z7m];cases zdq la with
            | false=>simp
            | true=>
             simp only [Bool.not_true,Bool.false_eq_true,if_false,Bool.true_and];exact ih lb eb
          · cases h
theorem z87 (p:Pre C μ H E h a w o) {T T':TypeId} {x y:Operand} (neg:Bool) (ho:o.op= .binOp (cond neg .neq .eql) T x y T') {cs ds:List (AV U)} (hx:opv C E x= .agg cs) (hy:opv C E y= .agg ds) {b:Bool} (hb:z42 C T cs ds=some b):
 zb3 C μ H E h a w o (.sc (.bool (cond neg (!b) b))) h:=by
 have h1:=hx▸p.ops x (by simp [ho,Op.operands])
 have h2:=hy▸p.ops y (by simp [ho,Op.operands])
 generalize hqx:a.eval x=ux at h1
 generalize hqy:a.eval y=uy at h2
 unfold z42 at hb
 have hagT:zec C T=some true:=by
  split at hb
  · assumption
  · cases hb
 rw [hagT]at hb
 simp only at hb
 cases hg:C.P.eqGuardType C.P.depth T with
 | true=>simp [hg]at hb
 | false=>
  simp only [hg,cond_false,oma]at hb;obtain⟨l,hl,rfl⟩:=hb;cases h1 with
  | agg hn1 hv1=>
   cases h2 with
   | agg hn2 hv2=>
    rename_i us vs;have cel:∀(cs:List (AV U)) (us:Array Value),cs.length=us.size→(∀j c,cs[j]?=some c→V C.En μ H c (us.getD j undef))→zec C T=some true→Cel C μ H cs (.agg us) T:=by
     intro cs us hn hv hb;unfold Cel;rw [hb];refine⟨us,rfl,fun n _ j _ c hj=>⟨?_,hv j c hj⟩⟩;rw [←hn];exact(gea hj).1
    have hr:=z9n (w:=w) (μ:=μ) (H:=H) 12 10000 T cs ds l (by omega) hl _ _ (cel _ _ hn1 hv1 hagT) (cel _ _ hn2 hv2 hagT);refine za0 p (cv:= .bool (cond neg (!(zdq l)) (zdq l))) ?_ (.sc _);cases neg with
    | false=>
     simp only [execOp,ho,hqx,hqy,Sem.run_bind,cond_false,run_eqGuard_agg w .eql T x y us vs hg,run_eql_struct w T us vs,hr,Result.andThen_ok,Sem.run_pure]
    | true=>
     simp only [execOp,ho,hqx,hqy,Sem.run_bind,cond_true,run_eqGuard_agg w .neq T x y us vs hg,run_neq_struct w T us vs,hr,Result.andThen_ok,Sem.run_pure]
theorem zm9 (L:ELaws C.En) (p:Pre C μ H E h a w o) {k:Nat} {l:Loc} (hc:zar C o=2) (hkf:k∈zby C E h o) (hro:C.ro.contains k=false) (hk:μ k=some l) {w':World} {cv:Value} (hr:(execOp a.eval o).run C.P w= .ok (.value cv) w') (hw:Wd l.holds w w') {ob':Ob U}
 (hob:zcl C.En μ H w' l ob') (hv:V C.En μ H v cv):zb3 C μ H E h a w o v (zed h k ob'):=fun next Q hn=>by
 obtain⟨ob,h1,_⟩:=p.foot k hkf l hk
 exact zm5 hr (hn cv μ H w' hv (zzw L p.mem hk hw hob ⟨hc,hkf,hro⟩ (fun k' l' hk' hl=>p.foot k' hk'.2.1 l' hl) (by rw [h1];simp)))
theorem zwv (z:Array Value) (n k j:Nat) (hj:j<z.size) (hk:k<n):(Builtin.zeroCells z n).toList[k*z.size+j]?=some (z.getD j undef):=by
 have hlt:=zmo hk hj
 have hm:(k*z.size+j)%z.size=j:=by rw [Nat.mul_comm,Nat.mul_add_mod,Nat.mod_eq_of_lt hj]
 simp [Builtin.zeroCells,Array.getD,hlt,hm,hj]
theorem zagk (L:ELaws C.En) (p:Pre C μ H E h a w o) {c:Call} {x:Operand} {T e:TypeId} (ho:o.op= .call c) (hc:c.callee= .builtin .clear) (hargs:c.args.toList=[x]) (hT:c.argTypes.toList=[T]) (hu:C.P.underlying T=some (.slice e))
 {t:U.Ty} (hs:zbh C e=some (C.En.sz t)) {zs:List (AV U)} (hz:zel C e=some zs) {z:U.den t} (hre:C.En.reify t zs=some z) {key ver:Nat} {ww:zai} (hx:opv C E x= .own key ver ww) {xs ys:List (U.den t)} (hg:zc h key=some (.arr ver t xs))
 (hyl:ys.length=xs.length) (hy:∀i y,ys[i]?=some y→(ww.off≤i∧i<ww.off+ww.len xs.length∧y=z)∨(¬(ww.off≤i∧i<ww.off+ww.len xs.length)∧xs[i]?=some y)) (hro:C.ro.contains key=false):
 zb3 C μ H E h a w o (.tup []) (zed h key (.arr ver t ys)):=by
 have ha:c.args= #[x]:=by apply Array.ext';simpa using hargs
 have hT':c.argTypes= #[T]:=by apply Array.ext';simpa using hT
 have hxm:x∈o.op.operands:=by simp [ho,Op.operands,Call.operands,hc,ha]
 have hcls:zar C o=2:=by simp [zar,ho,hc]
 have hkf:key∈zby C E h o:=zcr (by simp [zar,ho,hc]) hxm (by simp [hx,zdn,zc4])
 have hVx:=hx▸p.ops x hxm
 obtain⟨i,zv,h1,h2,rfl⟩:=zjy hz
 obtain⟨hzl,hzr⟩:=L.reify t _ _ hre
 have hzs:zv.cells.size=C.En.sz t:=by simpa using hzl
 have hop:execOp a.eval o=(do let v←Builtin.clear_ #[T] o.type #[a.eval x];pure (.value v)):=by
  simp [execOp,ho,resolve,hc,ha,hT',invoke,builtin]
 generalize hq:a.eval x=q at hVx
 cases hVx with
 | own hl hb hv hpp hh=>
  rename_i l;obtain⟨ob,g1,g2⟩:=p.foot key hkf _ hl;rw [hg]at g1;cases g1;have g2':=g2;obtain⟨q1,q2,q3,q4,q5⟩:=g2;obtain⟨f1,f2⟩:=hh q2.symm;rw [q3]at f1;cases hat:l.at_ with
  | none=>
   simp only [hat]at f2 q5;obtain⟨rfl,hl0⟩:=f2;obtain⟨rfl,_⟩:=q5;have:ys=[]:=List.eq_nil_of_length_eq_zero (by simpa using hyl);subst this;refine zm9 L p hcls hkf hro hl (cv:= .tuple #[]) ?_ (Wd.refl _ w) g2' (.tup rfl fun j c hj=>by simp at hj);rw [hop,hq];simp [Builtin.clear_,run_underlying hu]
  | some q'=>
   obtain⟨b,o'⟩:=q';simp only [hat]at f2 q5;obtain⟨ad,cap,rfl,f4,f5,f6⟩:=f2;obtain⟨q6,q7,q8⟩:=q5;rw [q3]at hq f4
   by_cases h0:ww.len xs.length=0
   · refine zm9 L p hcls hkf hro hl (cv:= .tuple #[]) (w':=w) ?_ (Wd.refl _ w) ?_ (.tup rfl fun j c hj=>by simp at hj)
     · rw [hop,hq,h0];cases ad<;>simp [Builtin.clear_,run_underlying hu]
     · have:ys=xs:=by
        apply List.ext_getElem?;intro i;cases hyi:ys[i]? with
        | none=>
         have:=List.getElem?_eq_none_iff.1 hyi;rw [List.getElem?_eq_none_iff.2 (by omega)]
        | some y=>
         rcases hy i y hyi with hh|hh
         · omega
         · exact hh.2.symm
       rw [this];exact g2'
   · have hcap:cap≠0:=by omega
     have hadr:=f5 hcap;subst hadr;rw [q4]at f6 hq;have hmul:(ww.off+ww.len xs.length)*C.En.sz t≤(ww.off+cap)*C.En.sz t:=Nat.mul_le_mul_right _ (by omega);rw [Nat.add_mul]at hmul;have hzc:(Builtin.zeroCells zv.cells (ww.len xs.length)).toList.length=ww.len xs.length*C.En.sz t:=by
      rw [Array.length_toList,size_zeroCells,hzs]
     have hcells:∀j,j<ww.len xs.length*C.En.sz t→(w.cell? ⟨b,o'+ww.off*C.En.sz t+j,none⟩).isSome=true∧w.frozen? ⟨b,o'+ww.off*C.En.sz t+j,none⟩=false:=fun j hj=>by
      have:=q7 (ww.off*C.En.sz t+j) (by omega);rw [show o'+ww.off*C.En.sz t+j=o'+(ww.off*C.En.sz t+j)by omega];exact this
     have hzone:∀v∈zv.cells.toList,v.oneCell'=true:=by
      intro v hv;obtain⟨j,hj⟩:=List.getElem?_of_mem hv;have hjl:=(gea hj).1;rw [Array.length_toList,hzs]at hjl;have hje:j<(C.En.enc t z).length:=by rw [L.sz];exact hjl
      have hr:=hzr j (.sc v) _ (by rw [gem,hj];rfl) (lga hje);rcases hr with e|⟨e,_⟩
      · have hf:=L.fz t z _ (List.getElem_mem hje);rw [←e]at hf;rcases hf with⟨v',e1,e2⟩|⟨_,_,e1⟩
        · cases e1;exact e2
        · cases e1
      · cases e;rfl
     have hone:∀u∈(Builtin.zeroCells zv.cells (ww.len xs.length)).toList,u.oneCell'=true:=by
      intro u hu;simp only [Builtin.zeroCells,Array.toList_map,List.mem_map]at hu;obtain⟨q,_,rfl⟩:=hu;have hpos:0<zv.cells.size:=by rw [hzs];exact L.pos t
      have hm:=Nat.mod_lt q hpos;have:zv.cells[q%zv.cells.size]! =zv.cells[q%zv.cells.size]:=by simp [hm]
      rw [this];exact hzone _ (by simp)
     have hst:=run_storeCells_cells (P:=C.P) b (o'+ww.off*C.En.sz t) (Builtin.zeroCells zv.cells (ww.len xs.length)).toList 0 w (fun j hj=>by rw [hzc]at hj;exact(hcells j hj).1) (fun j hj=>by rw [hzc]at hj;exact(hcells j hj).2) hone;simp only [Nat.add_zero]at hst;refine zm9 L p hcls hkf hro hl (w':=w.setCells b (o'+ww.off*C.En.sz t) (Builtin.zeroCells zv.cells (ww.len xs.length)).toList) (cv:= .tuple #[]) ?_ (zlc _ b _ _ w fun j hj=>⟨o',hat,by omega,by rw [hzc]at hj;omega⟩) ?_ (.tup rfl fun j c hj=>by simp at hj)
     · rw [hop,hq];cases hn:ww.len xs.length with
       | zero=>exact absurd hn h0
       | succ m=>
        rw [hn]at hst;simp [Builtin.clear_,run_underlying hu,zeroValue,typeInfo,h1,h2,hst]
     · refine⟨q1,q2,by rw [hyl];exact q3,q4,?_⟩;simp only [hat];refine⟨by rw [hyl];exact q6,fun j hj=>⟨World.isSome_setCells _ _ _ _ _ (q7 j hj).1,by rw [World.frozen?_setCells];exact(q7 j hj).2⟩,fun k y hk j cc hj=> ?_⟩;have hjl:=(gea hj).1;rw [L.sz]at hjl;rcases hy k y hk with⟨g3,g4,rfl⟩|⟨g3,g4⟩
       · have e1:k*C.En.sz t=ww.off*C.En.sz t+(k-ww.off)*C.En.sz t:=by
          rw [←Nat.add_mul]
          congr 1
          omega
         have hlt:=zmo (show k-ww.off<ww.len xs.length by omega) hjl;have:=World.cell?_setCells_in b (Builtin.zeroCells zv.cells (ww.len xs.length)).toList (o'+ww.off*C.En.sz t) w (fun i hi=>by rw [hzc]at hi;exact(hcells i hi).1) ((k-ww.off)*C.En.sz t+j) (by rw [hzc];exact hlt);have hzg:=zwv zv.cells (ww.len xs.length) (k-ww.off) j (by omega) (by omega);rw [hzs,lga (by rw [hzc];exact hlt)]at hzg;rw [show o'+(k*C.En.sz t+j)=o'+ww.off*C.En.sz t+((k-ww.off)*C.En.sz t+j)by omega,this,Option.some.inj hzg];have hcz:(zv.cells.toList.map (AV.sc (U:=U)))[j]?=some (.sc (zv.cells.getD j undef)):=by
          rw [gem,zmv _ _ (by omega)];rfl
         exact⟨_,rfl,V.ref (.sc _) (hzr j _ cc hcz hj)⟩
       · obtain⟨u,r1,r2⟩:=q8 k y g4 j cc hj;refine⟨u,?_,r2⟩;rw [World.cell?_setCells_out _ _ _ _ _ (fun _ _=> ?_)]
         · exact r1
         · simp only [hzc];rcases Nat.lt_or_ge k ww.off with hlt|hge
           · have:(k+1)*C.En.sz t≤ww.off*C.En.sz t:=Nat.mul_le_mul_right _ hlt;rw [Nat.add_mul]at this;omega
           · have:(ww.off+ww.len xs.length)*C.En.sz t≤k*C.En.sz t:=Nat.mul_le_mul_right _ (by omega);rw [Nat.add_mul]at this;omega
theorem zaix (L:ELaws C.En) (p:Pre C μ H E h a w o) {c:Call} {x y:Operand} {T T' e:TypeId} (ho:o.op= .call c) (hc:c.callee= .builtin .copy) (hargs:c.args.toList=[x,y]) (hT:c.argTypes.toList=[T,T']) (hu:C.P.underlying T=some (.slice e))
 {t:U.Ty} (hs:zbh C e=some (C.En.sz t)) (h1:C.En.sz t=1) {key ver:Nat} {ww:zai} (hx:opv C E x= .own key ver ww) {xs ys zs:List (U.den t)} (hg:zc h key=some (.arr ver t xs)) (hy:zly h t (opv C E y)=some ys)
 {m:Nat} (hm:m=min ys.length (ww.len xs.length)) (hzl:zs.length=xs.length) (hz:∀i v,zs[i]?=some v→(∃j,j<m∧i=ww.off+j∧ys[j]?=some v)∨(¬(ww.off≤i∧i<ww.off+m)∧xs[i]?=some v)) (hro:C.ro.contains key=false):
 zb3 C μ H E h a w o (.sc (.int .i64 (m:Int))) (zed h key (.arr ver t zs)):=by
 have ha:c.args= #[x,y]:=by apply Array.ext';simpa using hargs
 have hT':c.argTypes= #[T,T']:=by apply Array.ext';simpa using hT
 have hxm:x∈o.op.operands:=by simp [ho,Op.operands,Call.operands,hc,ha]
 have hym:y∈o.op.operands:=by simp [ho,Op.operands,Call.operands,hc,ha]
 have hcls:zar C o=2:=by simp [zar,ho,hc]
 have hkf:key∈zby C E h o:=zcr (by simp [zar,ho,hc]) hxm (by simp [hx,zdn,zc4])
 have hVx:=hx▸p.ops x hxm
 have hey:=zqw p.mem (fun k hk=>p.foot k (zcr (by simp [zar,ho,hc]) hym hk)) (p.ops y hym) hy
 obtain⟨ad2,cap2,b2,o2,hvy,hcap2,had2,hcs⟩:=hey
 have hsi:(C.P.info? e).map (·.size)=some 1:=by rw [←h1];exact hs
 have hop:execOp a.eval o=(do let v←Builtin.copy_ #[T,T'] o.type #[a.eval x,a.eval y];pure (.value v)):=by
  simp [execOp,ho,resolve,hc,ha,hT',invoke,builtin]
 generalize hq:a.eval x=q at hVx
 cases hVx with
 | own hl hb hv hpp hh=>
  rename_i l;obtain⟨ob,g1,g2⟩:=p.foot key hkf _ hl;rw [hg]at g1;cases g1;have g2':=g2;obtain⟨q1,q2,q3,q4,q5⟩:=g2;obtain⟨f1,f2⟩:=hh q2.symm;rw [q3]at f1
  by_cases h0:m=0
  · have hzx:zs=xs:=by
     apply List.ext_getElem?;intro i;cases hyi:zs[i]? with
     | none=>
      have:=List.getElem?_eq_none_iff.1 hyi;rw [List.getElem?_eq_none_iff.2 (by omega)]
     | some y=>
      rcases hz i y hyi with⟨j,hj,_⟩|hh
      · omega
      · exact hh.2.symm
    subst hzx;refine zm9 L p hcls hkf hro hl (w':=w) (cv:=goInt 0) ?_ (Wd.refl _ w) g2' (by rw [h0];exact .sc _);rw [hop,hq,hvy];cases hat:l.at_ with
    | none=>
     simp only [hat]at f2;obtain⟨rfl,hl0⟩:=f2;simp [run_copy_none (P:=C.P) w T T' o.type e none ad2 0 0 ys.length cap2 hu hsi (by simp [Nat.min_def])]
    | some q'=>
     obtain⟨b,o'⟩:=q';simp only [hat]at f2;obtain⟨ad,cap,rfl,f4,f5,f6⟩:=f2;rw [q3];simp [run_copy_none (P:=C.P) w T T' o.type e ad ad2 (ww.len zs.length) cap ys.length cap2 hu hsi (by have:Nat.min ys.length (ww.len zs.length)=min ys.length (ww.len zs.length):=rfl;omega)]
  · cases hat:l.at_ with
    | none=>
     simp only [hat]at f2 q5;obtain⟨rfl,hl0⟩:=f2;obtain⟨rfl,_⟩:=q5;have:ww.len ([]:List (U.den t)).length=0:=by
      have:=f1;simp only [List.length_nil]at this⊢;omega
     omega
    | some q'=>
     obtain⟨b,o'⟩:=q';simp only [hat]at f2 q5;obtain⟨ad,cap,rfl,f4,f5,f6⟩:=f2;obtain⟨q6,q7,q8⟩:=q5;rw [q3]at hq f4;have hcap:cap≠0:=by omega
     have hadr:=f5 hcap;subst hadr;rw [q4,h1]at f6 hq;rw [h1]at q6 q8;simp only [Nat.mul_one]at f6 hq q6 q8;have hys:ys≠[]:=fun e=>by rw [e]at hm;simp at hm;omega
     have hA:=had2 hys;subst hA;rw [h1]at hcs;simp only [Nat.mul_one]at hcs;have hcell:∀j,j<m→∃cv,w.cell? ⟨b2,o2+j,none⟩=some cv∧cv.oneCell'=true∧∀y,ys[j]?=some y→∀k c,(C.En.enc t y)[k]?=some c→k=0∧V C.En μ H c cv:=by
      intro j hj;have hjl:j<ys.length:=by omega
      have hx:=lga hjl;have hje:0<(C.En.enc t ys[j]).length:=by rw [L.sz,h1];exact Nat.one_pos
      obtain⟨cv,e1,e2⟩:=hcs _ _ hx _ _ (lga hje);rw [Nat.add_zero]at e1;refine⟨cv,e1,(L.fz t _ _ (List.getElem_mem hje)).one e2,fun y hy k c hk=> ?_⟩;rw [hx]at hy;cases hy;have hkl:=(gea hk).1;rw [L.sz,h1]at hkl;obtain rfl:k=0:=by omega
      rw [lga hje]at hk;cases hk;exact⟨rfl,e2⟩
     have hdst:∀j,j<m→(w.cell? ⟨b,o'+ww.off+j,none⟩).isSome=true∧w.frozen? ⟨b,o'+ww.off+j,none⟩=false:=fun j hj=>by
      have:=q7 (ww.off+j) (by omega);rw [show o'+ww.off+j=o'+(ww.off+j)by omega];exact this
     let cs:List Value:=(List.range m).map fun j=>(w.cell? ⟨b2,o2+j,none⟩).getD undef
     have hcl:cs.length=m:=by simp [cs]
     have hcg:∀j v,cs[j]?=some v→j<m∧w.cell? ⟨b2,o2+j,none⟩=some v:=by
      intro j v hj;have hjl:=(gea hj).1;rw [hcl]at hjl;obtain⟨cv,e1,_⟩:=hcell j hjl;simp only [cs,gem,List.getElem?_range hjl,Option.map_some,e1,Option.getD_some,Option.some.injEq]at hj;subst hj;exact⟨hjl,e1⟩
     have hrun:=run_copy_cells (P:=C.P) w T T' o.type e b (o'+ww.off) (ww.len xs.length) cap ⟨b2,o2,none⟩ ys.length cap2 cs hu hsi (by rw [hcl];exact hm)
      (fun j v hj=>by rw [Addr.add_mid];exact(hcg j v hj).2) (fun j hj=>by rw [hcl]at hj;exact(hdst j hj).1) (fun j hj=>by rw [hcl]at hj;exact(hdst j hj).2)
      (fun v hv=>by
       obtain⟨j,hj⟩:=List.getElem?_of_mem hv;obtain⟨g3,g4⟩:=hcg j v hj;obtain⟨cv,e1,e2,_⟩:=hcell j g3;rw [g4]at e1;cases e1;exact e2)
     rw [hcl]at hrun;refine zm9 L p hcls hkf hro hl (w':=w.setCells b (o'+ww.off) cs) (cv:=goInt m) ?_ (zlc _ b _ _ w fun j hj=>⟨o',hat,by omega,by rw [hcl]at hj;omega⟩) ?_ (.sc _)
     · rw [hop,hq,hvy];simp [hrun]
     · refine⟨q1,q2,by rw [hzl];exact q3,q4,?_⟩;simp only [hat];rw [h1];simp only [Nat.mul_one];refine⟨by rw [hzl];exact q6,fun j hj=>⟨World.isSome_setCells _ _ _ _ _ (q7 j hj).1,by rw [World.frozen?_setCells];exact(q7 j hj).2⟩,fun k y hk j cc hj=> ?_⟩;have hjl:=(gea hj).1;rw [L.sz,h1]at hjl;obtain rfl:j=0:=by omega
       rcases hz k y hk with⟨i,hi,rfl,g4⟩|⟨g3,g4⟩
       · obtain⟨cv,e1,_,e3⟩:=hcell i hi;have hci:cs[i]?=some cv:=by
          simp only [cs,gem,List.getElem?_range hi,Option.map_some,e1,Option.getD_some]
         have:=World.cell?_setCells_in b cs (o'+ww.off) w (fun j hj=>by rw [hcl]at hj;exact(hdst j hj).1) i (by rw [hcl];exact hi);rw [show o'+(ww.off+i+0)=o'+ww.off+i by omega,this];exact⟨cv,by rw [←lga];exact hci,(e3 y g4 0 cc hj).2⟩
       · obtain⟨u,r1,r2⟩:=q8 k y g4 0 cc hj;refine⟨u,?_,r2⟩;rw [World.cell?_setCells_out _ _ _ _ _ (fun _ _=> ?_)]
         · exact r1
         · simp only [hcl];omega
def zzx:Nat→List Value→Option Value
 | 0,[.int .u64 x,.int .u64 y,.int .u64 c]=>if c.toNat>1 then none else
  some (.tuple #[.int .u64 ((((x.toNat+y.toNat+c.toNat)%2^64:Nat)):Int),.int .u64 ((((x.toNat+y.toNat+c.toNat)/2^64:Nat)):Int)])
 | 1,[.int .u64 x,.int .u64 y,.int .u64 c]=>if c.toNat>1 then none else
  some (.tuple #[.int .u64 ((((x.toNat+2^64-y.toNat-c.toNat)%2^64:Nat)):Int),.int .u64 ((((if x.toNat<y.toNat+c.toNat then 1 else 0:Nat))):Int)])
 | 2,[.string x,.string y]=>some (.int .i64 (Extern.BytealgCompare.cmp x y))
 | _,_=>none
def XOK (C:Ctx U):Prop:=∀f n,C.X f=some n→∀(args:List Value) v,zzx n args=some v→∀w,(callFunc f args.toArray).run C.P w= .ok (.value v) w
theorem z4m {c:Call} {fo:Operand} {f:FuncId} {caps:Array Value} (ho:o.op= .call c) (hc:c.callee= .value fo) (hf:a.eval fo= .func (.func f) #[] caps):
 execOp a.eval o=callFunc f (c.args.map a.eval++caps):=by
 simp [execOp,ho,resolve,hc,hf,invoke,Deferred.ofValue]
end
section
variable {U:Uni} {C:Ctx U} {μ:Mp} {H:Fz} {E:List (AV U)} {h h':za U} {a:Act} {w:World} {o:Oper} {v:AV U}
inductive F2 {α β:Type} (R:α→β→Prop):List α→List β→Prop
 | nil:F2 R [] []
 | cons {a b l m}:R a b→F2 R l m→F2 R (a::l) (b::m)
theorem F2.append {α β:Type} {R:α→β→Prop} {l l':List α} {m m':List β} (h:F2 R l m) (h':F2 R l' m'):F2 R (l++l') (m++m'):=by
 induction h with
 | nil=>exact h'
 | cons h1 _ ih=>exact .cons h1 ih
theorem F2.length {α β:Type} {R:α→β→Prop} {l:List α} {m:List β} (h:F2 R l m):l.length=m.length:=by
 induction h with
 | nil=>rfl
 | cons _ _ ih=>simp [ih]
theorem F2.get {α β:Type} {R:α→β→Prop} {l:List α} {m:List β} (h:F2 R l m):∀(i:Nat) a b,l[i]?=some a→m[i]?=some b→R a b:=by
 induction h with
 | nil=>intro i a b h1;simp at h1
 | cons h1 _ ih=>
  intro i a b g1 g2;cases i with
  | zero=>cases g1;cases g2;exact h1
  | succ i=>exact ih i a b (by simpa using g1) (by simpa using g2)
def zi6:Mp:=fun _=>none
def zie (l:Loc) (ww:zai):Loc:=⟨false,l.at_.map fun p=>(p.1,p.2+ww.off*l.sz),0,ww.len l.len,l.sz,l.size-ww.off*l.sz⟩
theorem zt2 {l:Loc} {ww:zai} {b o:Nat} (hh:(zie l ww).holds b o):l.holds b o:=by
 obtain⟨o0,h1,h2,h3⟩:=hh
 simp only [zie,oma]at h1 h3
 obtain⟨⟨b',o'⟩,h1,h4⟩:=h1
 cases h4
 exact⟨o',h1,by omega,by omega⟩
theorem zs2 {l:Loc} {ww:zai} {u:Value} (hh:zol l ww u):zol (zie l ww) .full u:=by
 obtain⟨h1,h2⟩:=hh
 refine⟨by simp [zai.off,zai.len],?_⟩
 cases ha:l.at_ with
 | none=>
  simp only [ha]at h2;obtain⟨rfl,h0⟩:=h2;simp only [zie,ha,Option.map_none];exact⟨by simp,by omega⟩
 | some p=>
  obtain⟨b,o'⟩:=p;simp only [ha]at h2;obtain⟨ad,cap,rfl,h3,h4,h5⟩:=h2;simp only [zie,ha,Option.map_some];refine⟨ad,cap,rfl,h3,fun hne=>by rw [h4 hne];simp [zai.off],?_⟩;rw [Nat.add_mul]at h5;show(0+cap)*l.sz≤l.size-ww.off*l.sz;rw [Nat.zero_add];omega
theorem zt0 (L:ELaws C.En) {μ1:Mp} {H1:Fz} {l:Loc} {ww:zai} {u:Value} {ver:Nat} {t:U.Ty} {xs:List (U.den t)} (hle:H.le H1) (ho:zcl C.En μ H w l (.arr ver t xs)) (hh:zol l ww u):
 zcl C.En μ1 H1 w (zie l ww) (.arr 0 t (zbu ww xs)):=by
 obtain⟨h1,h2,h3,h4,h5⟩:=ho
 obtain⟨f1,f2⟩:=hh
 rw [h3]at f1
 have hvl:=ww.of_length xs f1
 refine⟨rfl,rfl,by simp only [zie];rw [h3,hvl],h4,?_⟩
 cases ha:l.at_ with
 | none=>
  simp only [ha]at h5;simp only [zie,ha,Option.map_none];obtain⟨rfl,h0⟩:=h5;refine⟨by cases ww<;>simp [zbu],by omega⟩
 | some p=>
  obtain⟨b,o'⟩:=p;simp only [ha]at h5;obtain⟨h6,h7,h8⟩:=h5;simp only [zie,ha,Option.map_some];have hm:(ww.off+ww.len xs.length)*C.En.sz t≤xs.length*C.En.sz t:=Nat.mul_le_mul_right _ f1;rw [Nat.add_mul]at hm;refine⟨by rw [hvl,h4];omega,fun j hj=> ?_,fun i x hx j c hj=> ?_⟩
  · have:=h7 (ww.off*l.sz+j) (by omega);rw [Nat.add_assoc];exact this
  · obtain⟨cv,r1,r2⟩:=h8 _ _ (ww.of_get xs i x hx) j c hj;refine⟨cv,?_,(r2.mono hle μ.le_refl).shift L μ1 (L.fz _ _ _ (lma hj)).fza⟩;rw [←r1,h4]
    congr 2
    rw [Nat.add_mul];omega
def From (μ:Mp) (l:Loc) (s:Option Nat):Prop:=∀b o,l.holds b o→∃k lc,s=some k∧μ k=some lc∧lc.box=l.box∧lc.holds b o
theorem zkm {owns:List Nat} {j:Nat} {c:AV U} {cs:List (AV U)} {ks:List Nat} (hk:ze4 h owns j (c::cs)=some ks):
 (owns.contains j=false∧ze4 h owns (j+1) cs=some ks)∨
 (owns.contains j=true∧c= .sc (.slice none 0 0)∧ze4 h owns (j+1) cs=some ks)∨
 (owns.contains j=true∧∃k ver ww t xs ks',c= .own k ver ww∧zc h k=some (.arr ver t xs)∧ze4 h owns (j+1) cs=some ks'∧ks=k::ks'):=by
 unfold ze4 at hk
 split at hk
 · rename_i k ver ww h1;cases hg:zc h k with
   | none=>simp [hg]at hk
   | some ob=>
    cases ob with
    | box=>simp [hg]at hk
    | arr ver' t xs=>
     simp only [hg,zca]at hk
     by_cases e:ver=ver'
     · subst e;simp only [decide_true,cond_true,oma]at hk;obtain⟨ks',h2,rfl⟩:=hk;exact .inr (.inr ⟨h1,k,ver,ww,t,xs,ks',rfl,hg,h2,rfl⟩)
     · simp [e]at hk
 · rename_i h1;exact .inr (.inl ⟨h1,rfl,hk⟩)
 · cases hk
 · rename_i h1;exact .inl ⟨h1,hk⟩
theorem zju {base:Nat} {owns:List Nat} {j:Nat} {c:AV U} {cs cs':List (AV U)} {hs:za U} (hk:zih base owns j (c::cs)=some (cs',hs)):
 (owns.contains j=false∧∃r,zih base owns (j+1) cs=some (r,hs)∧cs'=c::r)∨
 (owns.contains j=true∧∃t xs r hs',c= .lst t xs∧zih base owns (j+1) cs=some (r,hs')∧cs'= .own (base+j) 0 .full::r∧hs=(base+j,.arr 0 t xs)::hs'):=by
 unfold zih at hk
 split at hk
 · rename_i t xs h1;rw [oba]at hk;obtain⟨⟨r,hs'⟩,h2,h3⟩:=hk;cases h3;exact .inr ⟨h1,t,xs,r,hs',rfl,h2,rfl,rfl⟩
 · cases hk
 · rename_i h1;rw [oba]at hk;obtain⟨⟨r,hs'⟩,h2,h3⟩:=hk;cases h3;exact .inl ⟨h1,r,h2,rfl⟩
def zmj (C:Ctx U) (μ:Mp) (H:Fz) (h:za U) (w:World) (k:Nat):Prop:=∀l,μ k=some l→∃ob,zc h k=some ob∧zcl C.En μ H w l ob
def zjq (En:Enc U) (μ1:Mp) (H1:Fz) (w:World) (ml:List (Nat × Loc)) (hs:za U):Prop:=F2 (fun(q:Nat × Loc) (p:Nat × Ob U)=>q.1=p.1∧zcl En μ1 H1 w q.2 p.2) ml hs
def zgt (μ1:Mp) (ml:List (Nat × Loc)):Prop:=∀q∈ml,μ1 q.1=some q.2
def zm4 (μ:Mp) (ml:List (Nat × Loc)) (ss:List (Option Nat)):Prop:=F2 (fun(q:Nat × Loc) s=>From μ q.2 s) ml ss
theorem zqx (L:ELaws C.En) {H1:Fz} (hle:H.le H1) (base:Nat) (owns:List Nat):∀(cs:List (AV U)) (j0:Nat) (cs2 cs':List (AV U)) (hs:za U) (ks:List Nat) (g:Nat→Value),
 (∀(j:Nat) c,cs[j]?=some c→V C.En μ H c (g j))→(∀k ver ww,.own k ver ww∈cs→zmj C μ H h w k)→cs.length=cs2.length→(∀(j:Nat) c c2,cs[j]?=some c→cs2[j]?=some c2→Ref (zem h c) c2∧Fzc c2)→
 (∀(j:Nat) c,cs[j]?=some c→owns.contains (j0+j)=false→V C.En zi6 H1 (zem h c) (g j))→ze4 h owns j0 cs=some ks→zih base owns j0 cs2=some (cs',hs)→
 ∃ml ss,zm4 μ ml ss∧ss.filterMap id=ks∧cs'.length=cs.length∧(∀q∈ml,q.2.box=false)∧ml.map (·.1)=hs.map (·.1)∧
  (∀(j:Nat) k ver ww lk,cs[j]?=some (.own k ver ww)→owns.contains (j0+j)=true→μ k=some lk→(base+(j0+j),zie lk ww)∈ml)∧
  ∀μ1,zgt μ1 ml→zjq C.En μ1 H1 w ml hs∧∀(j:Nat) c',cs'[j]?=some c'→V C.En μ1 H1 c' (g j)
 | [],j0,[],cs',hs,ks,g,hV,hob,hl,href,hlend,hk,ho=>by
  cases hk;cases ho;exact⟨[],[],.nil,rfl,rfl,(fun q hq=>by simp at hq),rfl,(fun j k ver ww lk hj=>by simp at hj),fun μ1 _=>⟨.nil,fun j c' hj=>by simp at hj⟩⟩
 | [],j0,_::_,cs',hs,ks,g,hV,hob,hl,href,hlend,hk,ho=>by simp at hl
 | _::_,j0,[],cs',hs,ks,g,hV,hob,hl,href,hlend,hk,ho=>by simp at hl
 | c::cs,j0,c2::cs2,cs',hs,ks,g,hV,hob,hl,href,hlend,hk,ho=>by
  obtain⟨hr0,hf0⟩:=href 0 _ _ rfl rfl;have hV0:=hV 0 _ rfl;have ih:=fun ks' cs'' hs'=>zqx L hle base owns cs (j0+1) cs2 cs'' hs' ks' (fun j=>g (j+1)) (fun j c hj=>hV (j+1) c (by simpa using hj)) (fun k ver ww hm=>hob k ver ww (mca _ hm)) (by simpa using hl)
   (fun j c c2 h1 h2=>href (j+1) c c2 (by simpa using h1) (by simpa using h2)) (fun j c hj hc=>hlend (j+1) c (by simpa using hj) (by rw [show j0+(j+1)=j0+1+j by omega];exact hc))
  rcases zkm hk with⟨e1,k1⟩|⟨e1,rfl,k1⟩|⟨e1,k,ver,ww,t,xs,ks',rfl,hg,k1,rfl⟩
  · rcases zju ho with⟨e2,r,o1,rfl⟩|⟨e2,_⟩
    · obtain⟨ml,ss,g1,g2,g3,g5,g6,g7,g4⟩:=ih ks r hs k1 o1;refine⟨ml,ss,g1,g2,by simp [g3],g5,g6,fun j k ver ww lk hj hc hl=> ?_,fun μ1 hw1=>⟨(g4 μ1 hw1).1,fun j c' hj=> ?_⟩⟩
      · cases j with
        | zero=>rw [Nat.add_zero,e1]at hc;cases hc
        | succ j=>rw [show j0+(j+1)=j0+1+j by omega];exact g7 j k ver ww lk (by simpa using hj) (by rw [show j0+1+j=j0+(j+1)by omega];exact hc) hl
      cases j with
      | zero=>
       cases hj;exact((hlend 0 _ rfl e1).ref hr0).shift L μ1 hf0.fza
      | succ j=>exact(g4 μ1 hw1).2 j c' (by simpa using hj)
    · rw [e1]at e2;cases e2
  · rcases zju ho with⟨e2,_⟩|⟨e2,t,xs,r,hs',rfl,o1,rfl,rfl⟩
    · rw [e1]at e2;cases e2
    · obtain⟨ml,ss,g1,g2,g3,g5,g6,g7,g4⟩:=ih ks r hs' k1 o1;have hx0:xs=[]:=by
       rcases hr0 with e|⟨_,t',e⟩
       · simp [zem]at e
       · cases e;rfl
      subst hx0;have hu:g 0= .slice none 0 0:=hV0.int;refine⟨(base+j0,⟨false,none,0,0,C.En.sz t,0⟩)::ml,none::ss,.cons (fun b o ⟨o0,h1,_⟩=>by cases h1) g1,g2,by simp [g3],(fun q hq=>by rcases mco hq with rfl|hq;exact rfl;exact g5 q hq),by simp [g6],fun j k ver ww lk hj hc hl=> ?_,fun μ1 hw1=> ?_⟩
      · cases j with
        | zero=>cases hj
        | succ j=>rw [show j0+(j+1)=j0+1+j by omega];exact mca _ (g7 j k ver ww lk (by simpa using hj) (by rw [show j0+1+j=j0+(j+1)by omega];exact hc) hl)
      obtain⟨q1,q2⟩:=g4 μ1 (fun q hq=>hw1 q (mca _ hq));refine⟨.cons ⟨rfl,rfl,rfl,rfl,rfl,rfl,rfl⟩ q1,fun j c' hj=> ?_⟩;cases j with
      | zero=>
       cases hj;exact .own (hw1 _ msa) rfl (Nat.le_refl _) ⟨_,_,_,hu⟩ fun _=>⟨Nat.le_refl _,hu,rfl⟩
      | succ j=>exact q2 j c' (by simpa using hj)
  · rcases zju ho with⟨e2,_⟩|⟨e2,t2,xs2,r,hs',rfl,o1,rfl,rfl⟩
    · rw [e1]at e2;cases e2
    · obtain⟨ml,ss,g1,g2,g3,g5,g6,g7,g4⟩:=ih ks' r hs' k1 o1;have hx0:AV.lst t2 xs2=(.lst t (zbu ww xs):AV U):=by
       rcases hr0 with e|⟨e,_⟩
       · simp only [zem,hg,zca,decide_true,cond_true]at e;exact e.symm
       · simp [zem,hg,zca]at e
      cases hx0;cases hV0 with
      | own hl hb hv hpp hh=>
       rename_i l;obtain⟨ob,r1,r2⟩:=hob k ver ww msa l hl;rw [hg]at r1;cases r1;have hown:=hh r2.2.1.symm;refine⟨(base+j0,zie l ww)::ml,some k::ss,.cons (fun b o hh=>⟨k,l,rfl,hl,hb,zt2 hh⟩) g1,by simp [g2],by simp [g3],(fun q hq=>by rcases mco hq with rfl|hq;exact rfl;exact g5 q hq),by simp [g6],fun j k' ver' ww' lk hj hc hl'=> ?_,fun μ1 hw1=> ?_⟩
       · cases j with
         | zero=>
          cases hj;rw [hl]at hl';cases hl';exact msa
         | succ j=>rw [show j0+(j+1)=j0+1+j by omega];exact mca _ (g7 j k' ver' ww' lk (by simpa using hj) (by rw [show j0+1+j=j0+(j+1)by omega];exact hc) hl')
       obtain⟨q1,q2⟩:=g4 μ1 (fun q hq=>hw1 q (mca _ hq));refine⟨.cons ⟨rfl,zt0 L hle r2 hown⟩ q1,fun j c' hj=> ?_⟩;cases j with
       | zero=>
        cases hj;exact .own (hw1 _ msa) rfl (Nat.le_refl _) hpp fun _=>zs2 hown
       | succ j=>exact q2 j c' (by simpa using hj)
end
section
variable {U:Uni} {C:Ctx U} {μ:Mp} {H:Fz} {E:List (AV U)} {h h':za U} {a:Act} {w:World} {o:Oper} {v:AV U}
def zc5:List (Nat × Loc)→Mp
 | [],_=>none
 | (k',l)::m,k=>cond (Nat.beq k k') (some l) (zc5 m k)
theorem zgn:∀{l:List Nat},zh0 l=true→l.Nodup
 | [],_=>List.nodup_nil
 | k::l,h=>by
  simp only [zh0,baa,Bool.not_eq_true',List.contains_eq_mem,decide_eq_false_iff_not]at h;exact List.nodup_cons.2 ⟨h.1,zgn h.2⟩
theorem zhm:∀{ml:List (Nat × Loc)} {k:Nat} {l:Loc},zc5 ml k=some l→(k,l)∈ml
 | [],k,l,h=>by cases h
 | (k',l')::ml,k,l,h=>by
  simp only [zc5,zca]at h
  by_cases e:k=k'
  · subst e;simp at h;subst h;exact msa
  · simp [e]at h;exact mca _ (zhm h)
theorem zha:∀{ml:List (Nat × Loc)},(ml.map (·.1)).Nodup→zgt (zc5 ml) ml
 | [],_,q,hq=>by simp at hq
 | (k',l')::ml,hn,q,hq=>by
  simp only [List.map_cons,List.nodup_cons]at hn;simp only [zc5,zca];rcases mco hq with rfl|hq
  · simp
  · have hne:¬q.1=k':=fun e=>hn.1 (e▸List.mem_map.2 ⟨q,hq,rfl⟩);simp [hne];exact zha hn.2 q hq
theorem z3v {μ1:Mp} {H1:Fz} {ml:List (Nat × Loc)} {hs:za U} (hr:zjq C.En μ1 H1 w ml hs):ml.map (·.1)=hs.map (·.1):=by
 induction hr with
 | nil=>rfl
 | cons h1 _ ih=>simp [h1.1,ih]
theorem z0e {μ1:Mp} {H1:Fz} {ml:List (Nat × Loc)} {hs:za U} (hr:zjq C.En μ1 H1 w ml hs):∀k l,zc5 ml k=some l→∃ob,zc hs k=some ob∧zcl C.En μ1 H1 w l ob:=by
 induction hr with
 | nil=>intro k l h;cases h
 | cons h1 _ ih=>
  rename_i q p ml hs _;intro k l hk;simp only [zc5,zc,zca]at hk⊢;rw [←h1.1]
  by_cases e:k=q.1
  · simp [e]at hk⊢;subst hk;exact h1.2
  · simp [e]at hk⊢;exact ih k l hk
theorem zra {ml:List (Nat × Loc)} {ss:List (Option Nat)} (hf:zm4 μ ml ss) {q:Nat × Loc} (hq:q∈ml) {b o:Nat} (hh:q.2.holds b o):∃k lc,k∈ss.filterMap id∧μ k=some lc∧lc.box=q.2.box∧lc.holds b o:=by
 induction hf with
 | nil=>simp at hq
 | cons h1 _ ih=>
  rename_i q' s ml ss _;rcases mco hq with rfl|hq
  · obtain⟨k,lc,rfl,h2,h3⟩:=h1 b o hh;exact⟨k,lc,by simp,h2,h3⟩
  · obtain⟨k,lc,h2,h3,h4⟩:=ih hq;refine⟨k,lc,?_,h3,h4⟩;cases s with
    | none=>simpa using h2
    | some s=>simp only [List.filterMap_cons,id_eq,List.mem_cons];exact .inr h2
theorem z8z (hm:Mem μ H w) {ml:List (Nat × Loc)} {ss:List (Option Nat)} (hf:zm4 μ ml ss) (hn:(ss.filterMap id).Nodup):∀q1 q2,q1∈ml→q2∈ml→∀b o,q1.2.holds b o→q2.2.holds b o→q1=q2:=by
 induction hf with
 | nil=>intro q1 q2 h;simp at h
 | cons h1 hf ih=>
  rename_i q' s ml ss;intro q1 q2 m1 m2 b o g1 g2;have hn':(ss.filterMap id).Nodup:=by
   cases s with
   | none=>simpa using hn
   | some s=>simp only [List.filterMap_cons,id_eq,List.nodup_cons]at hn;exact hn.2
  have key:∀q2,q2∈ml→q'.2.holds b o→q2.2.holds b o→False:=by
   intro q2 m2 g1 g2;obtain⟨k,lc,rfl,h2,_,h3⟩:=h1 b o g1;obtain⟨k2,lc2,h4,h5,_,h6⟩:=zra hf m2 g2;have:=hm.apart _ _ _ _ _ _ h2 h5 h3 h6;subst this;simp only [List.filterMap_cons,id_eq,List.nodup_cons]at hn;exact hn.1 h4
  rcases mco m1 with e1|m1
  · rcases mco m2 with e2|m2
    · rw [e1,e2]
    · exact(key q2 m2 (e1▸g1) g2).elim
  · rcases mco m2 with e2|m2
    · exact(key q1 m1 (e2▸g2) g1).elim
    · exact ih hn' q1 q2 m1 m2 b o g1 g2
theorem zsj (hm:Mem μ H w) {H1:Fz} (hz:∀b o v,H1 b o=some v→w.cell? ⟨b,o,none⟩=some v) {ml:List (Nat × Loc)} {ss:List (Option Nat)} (hf:zm4 μ ml ss) (hn:(ss.filterMap id).Nodup)
 (hfree:∀k l b o,k∈ss.filterMap id→μ k=some l→l.holds b o→H1 b o=none):Mem (zc5 ml) H1 w where
 frz:=hz
 apart:=fun k k' l l' b o h1 h2 g1 g2=>by
  have:=z8z hm hf hn _ _ (zhm h1) (zhm h2) b o g1 g2;cases this;rfl
 free:=fun k l b o h1 g1=>by
  obtain⟨s,lc,h2,h3,_,h4⟩:=zra hf (zhm h1) g1;exact hfree s lc b o h2 h3 h4
 inside:=fun k l b o h1 g1=>by
  obtain⟨s,lc,h2,h3,_,h4⟩:=zra hf (zhm h1) g1;exact hm.inside s lc b o h3 h4
noncomputable def zcp (μ:Mp) (H:Fz) (w:World) (bs:List Nat):Fz:=fun b o=>
 haveI:=Classical.propDecidable (∃k l,k∈bs∧μ k=some l∧l.holds b o)
 if(∃k l,k∈bs∧μ k=some l∧l.holds b o)then w.cell? ⟨b,o,none⟩else H b o
theorem zgl (hm:Mem μ H w) (bs:List Nat):H.le (zcp μ H w bs):=fun b o v hv=>by
 unfold zcp
 split
 · rename_i hh;obtain⟨k,l,_,h1,h2⟩:=hh;have:=hm.free _ _ _ _ h1 h2;rw [hv]at this;cases this
 · exact hv
theorem zsl (hm:Mem μ H w) (bs:List Nat):∀b o v,zcp μ H w bs b o=some v→w.cell? ⟨b,o,none⟩=some v:=fun b o v hv=>by
 unfold zcp at hv
 split at hv
 · exact hv
 · exact hm.frz b o v hv
theorem zag9 {bs:List Nat} {k:Nat} {l:Loc} {b o:Nat} (hk:k∈bs) (hl:μ k=some l) (hh:l.holds b o):zcp μ H w bs b o=w.cell? ⟨b,o,none⟩:=by
 unfold zcp
 rw [if_pos ⟨k,l,hk,hl,hh⟩]
theorem zq9 (hm:Mem μ H w) {bs:List Nat} {k:Nat} {l:Loc} {b o:Nat} (hk:∀k'∈bs,k'≠k) (hl:μ k=some l) (hh:l.holds b o):zcp μ H w bs b o=none:=by
 unfold zcp
 split
 · rename_i hx;obtain⟨k',l',h1,h2,h3⟩:=hx;exact absurd (hm.apart _ _ _ _ _ _ h2 hl h3 hh) (hk k' h1)
 · exact hm.free _ _ _ _ hl hh
theorem z0r (L:ELaws C.En) (hm:Mem μ H w) {bs:List Nat} {k ver:Nat} {ww:zai} {t:U.Ty} {xs:List (U.den t)} {u:Value} (hk:k∈bs) (hkn:zmj C μ H h w k) (hg:zc h k=some (.arr ver t xs)) (hV:V C.En μ H (.own k ver ww) u) (μ1:Mp):
 V C.En μ1 (zcp μ H w bs) (.lst t (zbu ww xs)) u:=by
 have hV':=hV
 cases hV with
 | own hl hb hv hpp hh=>
  rename_i l;obtain⟨ob,h1,h2⟩:=hkn l hl;rw [hg]at h1;cases h1;obtain⟨ad,cap,b,o',hu,hcap,had,hcs⟩:=zth h2 hl hV';obtain⟨f1,f2⟩:=hh h2.2.1.symm;obtain⟨_,_,hlen,hsz,hm5⟩:=h2;rw [hlen]at f1;have hvl:=ww.of_length xs f1
  by_cases h0:zbu ww xs=[]
  · rw [hu,h0];exact .lst (b:=0) (o:=0) rfl (Nat.zero_le _) (fun hh=>absurd rfl hh) (fun _ _=>undef) (fun i x hx=>by simp at hx) (fun i x hx=>by simp at hx)
  · have hA:=had h0;cases hat:l.at_ with
    | none=>
     simp only [hat]at hm5;obtain⟨rfl,_⟩:=hm5;exact absurd (by cases ww<;>simp [zbu]) h0
    | some q=>
     obtain⟨b1,o1⟩:=q;simp only [hat]at hm5 f2;obtain⟨h6,h7,h8⟩:=hm5;obtain⟨ad',cap',f3,f4,f5,f6⟩:=f2;rw [hu]at f3;injection f3 with g1 g2 g3;subst g1 g3;have hpos:0<(zbu ww xs).length:=List.length_pos_iff.2 h0;have hA2:=f5 (by omega);rw [hA]at hA2;injection hA2 with hA2;injection hA2 with e1 e2;subst e1;have hmul:(ww.off+ww.len xs.length)*l.sz≤xs.length*l.sz:=Nat.mul_le_mul_right _ f1;rw [Nat.add_mul]at hmul;rw [hu];refine .lst (b:=b) (o:=o') rfl hcap (fun _=>hA) (fun i j=>(w.cell? ⟨b,o'+(i*C.En.sz t+j),none⟩).getD undef) (fun i x hx j c hj=> ?_) (fun i x hx j c hj=> ?_)
     · obtain⟨cv,r1,r2⟩:=hcs i x hx j c hj;have hil:=(gea hx).1;have hjl:=(gea hj).1;rw [L.sz]at hjl;have hlt:=zmo hil hjl;rw [hvl]at hlt;rw [zag9 hk hl ⟨o1,hat,by omega,by rw [←hsz]at hlt⊢;rw [←hsz]at h6;omega⟩,r1];rfl
     · obtain⟨cv,r1,r2⟩:=hcs i x hx j c hj;rw [r1];exact(r2.mono (zgl hm bs) μ.le_refl).shift L μ1 (L.fz _ _ _ (lma hj)).fza
theorem zs7 (L:ELaws C.En) (hm:Mem μ H w) {bs:List Nat} {c c2:AV U} {u:Value} (hV:V C.En μ H c u) (hk:∀k ver ww,c= .own k ver ww→k∈bs∧zmj C μ H h w k) (hr:Ref (zem h c) c2) (hf:Fzc c2) (μ1:Mp):
 V C.En μ1 (zcp μ H w bs) (zem h c) u:=by
 have hfz:Fza (zem h c):=by
  rcases hr with e|⟨e,_⟩
  · rw [e];exact hf.fza
  · rw [e];trivial
 have hne:zem h c≠ .dead:=by
  intro e;rcases hr with e'|⟨e',_⟩
  · rw [e]at e';subst e';rcases hf with⟨_,h1,_⟩|⟨_,_,h1⟩<;>cases h1
  · rw [e]at e';cases e'
 cases c with
 | own k ver ww=>
  obtain⟨h1,h2⟩:=hk k ver ww rfl;cases hg:zc h k with
  | none=>simp [zem,hg]at hne
  | some ob=>
   cases ob with
   | box=>simp [zem,hg]at hne
   | arr ver' t xs=>
    by_cases e:ver=ver'
    · subst e;simp only [zem,hg,zca,decide_true,cond_true];exact z0r L hm h1 h2 hg hV μ1
    · simp [zem,hg,zca,e]at hne
 | _=>exact(hV.mono (zgl hm bs) μ.le_refl).shift L μ1 hfz
theorem zaaw {v:AV U} {k ver:Nat} {ww:zai} (hm:AV.own k ver ww∈v.cells) (hp:v.plain=true):k∈zfl v:=by
 cases v with
 | own k' ver' ww'=>simp [AV.cells]at hm;simp [zfl,hm.1]
 | agg cs=>
  simp only [AV.cells]at hm;simp only [zfl];clear hp
  induction cs with
  | nil=>simp at hm
  | cons c cs ih=>
   rw [List.foldr_cons];rcases mco hm with rfl|hm
   · simp
   · have:=ih hm;cases c<;>simp [this]
 | _=>simp [AV.cells]at hm
theorem zva (L:ELaws C.En) (hm:Mem μ H w) {bs:List Nat} {t:U.Ty} {x:U.den t} {u:Value} (hr:zkd C h t v=some x) (hV:V C.En μ H v u) (hk:∀k,k∈zfl v→k∈bs∧zmj C μ H h w k) (μ1:Mp):V C.En μ1 (zcp μ H w bs) (C.En.value t x) u:=by
 obtain⟨hp,hl,href⟩:=zlt L hr
 have hc:=V.cells hV hp
 have key:∀j c2,(C.En.enc t x)[j]?=some c2→V C.En μ1 (zcp μ H w bs) c2 (u.cells.getD j undef):=by
  intro j c2 hj;have hjl:=(gea hj).1;rw [L.sz,←hl,List.length_map]at hjl;have h1:v.cells[j]?=some v.cells[j]:=lga hjl;have h2:=href j (zem h v.cells[j]) c2 (by rw [gem,h1];rfl) hj;exact(zs7 L hm (hc.2 j _ h1) (fun k ver ww e=>hk k (zaaw (e▸List.getElem_mem hjl) hp)) h2 (L.fz _ _ _ (lma hj)) μ1).ref h2
 unfold Enc.value
 unfold zkd at hr
 cases ha:C.En.agg t with
 | true=>
  rw [ha]at hr;cases v with
  | agg cs=>
   cases hV with
   | agg hn hv=>
    refine .agg ?_ key;rw [L.sz,←hl];simpa [AV.cells]using hn
  | _=>simp at hr
 | false=>
  have h1:(C.En.enc t x).length=1:=by rw [L.sz];exact L.one t ha
  have h2:(C.En.enc t x)[0]?=some ((C.En.enc t x).headD .dead):=by
   cases hq:C.En.enc t x with
   | nil=>rw [hq]at h1;simp at h1
   | cons c l=>rfl
  have:=key 0 _ h2;have hu:u.cells.getD 0 undef=u:=by
   have hcl:=hc.1;have hv1:v.cells=[v]:=by
    rw [ha]at hr;cases v with
    | agg cs=>simp at hr
    | _=>rfl
   have:u.cells= #[u]:=by
    rw [hv1]at hc;cases v with
    | agg cs=>rw [ha]at hr;simp at hr
    | sc v'=>cases hV;cases u<;>first|rfl|cases hp
    | dead=>cases hp
    | tup=>cases hp
    | _=>exact zyl (V.one rfl hV)
   rw [this];rfl
  rw [hu]at this;exact this
end
section
variable {U:Uni} {C:Ctx U} {μ:Mp} {H:Fz} {E:List (AV U)} {h h':za U} {a:Act} {w:World} {o:Oper} {v:AV U}
theorem zn0 {t:U.Ty} {x y:U.den t} (h:(⟨t,x⟩:Dyn U).as t=some y):y=x:=by
 unfold Dyn.as at h
 split at h
 · rename_i e _;cases h;rfl
 · cases h
theorem zpv {owns:List Nat} {k ver:Nat} {ww:zai}:∀(cs:List (AV U)) (j0 j:Nat),cs[j]?=some (.own k ver ww)→owns.contains (j0+j)=false→k∈zgf owns j0 cs
 | [],_,_,h,_=>by simp at h
 | c::cs,j0,0,h,hc=>by
  cases h;unfold zgf;rw [Nat.add_zero]at hc;rw [hc];exact msa
 | c::cs,j0,j+1,h,hc=>by
  have:=zpv cs (j0+1) j (by simpa using h) (by rw [show j0+1+j=j0+(j+1)by omega];exact hc);unfold zgf;split
  · exact mca _ this
  · exact this
theorem ztz {owns:List Nat} {k ver:Nat} {ww:zai}:∀(cs:List (AV U)) (j0 j:Nat) (ks:List Nat),ze4 h owns j0 cs=some ks→cs[j]?=some (.own k ver ww)→owns.contains (j0+j)=true→k∈ks
 | [],_,_,_,_,h,_=>by simp at h
 | c::cs,j0,0,ks,hk,hj,hc=>by
  cases hj;rw [Nat.add_zero]at hc;rcases zkm hk with⟨e1,_⟩|⟨_,e1,_⟩|⟨_,k',ver',ww',t,xs,ks',e1,_,_,rfl⟩
  · rw [hc]at e1;cases e1
  · cases e1
  · cases e1;exact msa
 | c::cs,j0,j+1,ks,hk,hj,hc=>by
  have ih:=fun ks' hk'=>ztz cs (j0+1) j ks' hk' (by simpa using hj) (by rw [show j0+1+j=j0+(j+1)by omega];exact hc);rcases zkm hk with⟨_,h1⟩|⟨_,_,h1⟩|⟨_,k',ver',ww',t,xs,ks',_,_,h1,rfl⟩
  · exact ih ks h1
  · exact ih ks h1
  · exact mca _ (ih ks' h1)
def Args (En:Enc U) (μ:Mp) (H:Fz) (as:List (AV U)) (us:List Value):Prop:=F2 (V En μ H) as us
theorem F2.of_get {α β:Type} {R:α→β→Prop}:∀{l:List α} {m:List β},l.length=m.length→(∀(i:Nat) a b,l[i]?=some a→m[i]?=some b→R a b)→F2 R l m
 | [],[],_,_=> .nil
 | [],_::_,h,_=>by simp at h
 | _::_,[],h,_=>by simp at h
 | a::l,b::m,h,hr=> .cons (hr 0 a b rfl rfl) (F2.of_get (by simpa using h) fun i a b h1 h2=>hr (i+1) a b (by simpa using h1) (by simpa using h2))
theorem F2.take_drop {α β:Type} {R:α→β→Prop} {l:List α} {m:List β} (h:F2 R l m) (n:Nat):F2 R (l.take n) (m.take n)∧F2 R (l.drop n) (m.drop n):=by
 have hl:=h.length
 refine⟨F2.of_get (by simp [hl]) fun i a b h1 h2=> ?_,F2.of_get (by simp [hl]) fun i a b h1 h2=> ?_⟩
 · rw [List.getElem?_take]at h1 h2;split at h1
   · rename_i hi;rw [if_pos hi]at h2;exact h.get i a b h1 h2
   · cases h1
 · rw [List.getElem?_drop]at h1 h2;exact h.get _ a b h1 h2
theorem zr8 {En:Enc U} {f:FuncId} {caps:List (AV U)} {u:Value} (hV:V En μ H (.fn f caps) u):∃vs,u= .func (.func f) #[] vs∧F2 (V En μ H) caps vs.toList:=by
 cases hV with
 | fn hn hv=>
  rename_i vs;refine⟨vs,rfl,F2.of_get (by simpa using hn) fun i a b h1 h2=> ?_⟩;have:=hv i a h1;have hb:vs.getD i undef=b:=by
   rw [Array.getElem?_toList]at h2;simp [agd,h2]
  rw [hb]at this;exact this
theorem z6z {En:Enc U} {f:FuncId} {caps:List (AV U)} {vs:Array Value} (h:F2 (V En μ H) caps vs.toList):V En μ H (.fn f caps) (.func (.func f) #[] vs):=by
 have hl:caps.length=vs.size:=by rw [h.length];simp
 refine .fn hl fun j c hj=> ?_
 have hjl:=(gea hj).1
 exact h.get j c _ hj (zmv vs j (by rw [←hl];exact hjl))
theorem ztj (L:ELaws C.En) {k off:Nat} {l:Loc} {cs:List (AV U)} {b o':Nat} (ho:zcl C.En μ H w l (.box cs)) (ha:l.at_=some (b,o')) {n:Nat} (hn:off+n≤cs.length):
 ∀(j:Nat) c,((cs.drop off).take n)[j]?=some c→V C.En μ H c ((w.cell? ⟨b,o'+off+j,none⟩).getD undef)∧(w.cell? ⟨b,o'+off+j,none⟩).isSome=true∧w.frozen? ⟨b,o'+off+j,none⟩=false:=by
 intro j c hj
 obtain⟨q1,q2,b1,o1,q3,q4,q5⟩:=ho
 rw [ha]at q3
 cases q3
 rw [List.getElem?_take]at hj
 split at hj
 · rw [List.getElem?_drop]at hj;obtain⟨u,r1,r2,r3⟩:=q5 _ c hj;rw [Nat.add_assoc,r1];exact⟨r3,rfl,r2⟩
 · cases hj
theorem zmy (L:ELaws C.En) (hm:Mem μ H w) (bs:List Nat):∀(ms:List (Md U)) (as:List (AV U)) (us:List Value) (j0:Nat) (c:Coll U) (E0:List (AV U)) (h0:za U),
 Args C.En μ H as us→zaq C h ms as=some c→(∀k∈c.bs,k∈bs)→(∀k,k∈c.ps.map (·.k)++(c.ks++c.bs)→zmj C μ H h w k)→zci C j0 ms c.ds=some (E0,h0)→
 ∃ml ss,zm4 μ ml ss∧List.Perm (ss.filterMap id) (c.ps.map (·.k)++c.ks)∧
  (∀(i:Nat) p,c.ps[i]?=some p→∃lp b o,μ p.k=some lp∧lp.box=true∧lp.at_=some (b,o)∧p.off+C.En.sz p.ty≤lp.size∧(1000000+(j0+i),⟨true,some (b,o+p.off),0,0,0,C.En.sz p.ty⟩)∈ml)∧
  F2 (fun(q:Nat × Loc) s=>(zcn j0 ms).contains q.1=false→∀k,s=some k→k∈c.ks∨∃p∈c.ps,p.write=true∧p.k=k) ml ss∧
  (∀q∈ml,q.2.box=true→∃(i:Nat) (p:Pl U),c.ps[i]?=some p∧q.1=1000000+(j0+i)∧(p.write=false→(zcn j0 ms).contains q.1=true))∧ml.map (·.1)=h0.map (·.1)∧
  ∀μ1,zgt μ1 ml→zjq C.En μ1 (zcp μ H w bs) w ml h0∧Args C.En μ1 (zcp μ H w bs) E0 us
 | [],as,us,j0,c,E0,h0,ha,hc,hb,hkn,ho=>by
  cases as with
  | cons=>simp [zaq]at hc
  | nil=>
   simp only [zaq,Option.some.injEq]at hc;subst hc;cases ha;cases ho;exact⟨[],[],.nil,List.Perm.nil,fun i p hp=>by simp at hp,.nil,(fun q hq=>by simp at hq),rfl,fun μ1 _=>⟨.nil,.nil⟩⟩
 | .val t::ms,as,us,j0,c,E0,h0,ha,hc,hb,hkn,ho=>by
  cases as with
  | nil=>simp [zaq]at hc
  | cons av as=>
   cases ha with
   | cons hV ha=>
    simp only [zaq,oba]at hc;obtain⟨x,h1,r,h2,hc⟩:=hc;cases hc;simp only at hb hkn ho;simp only [zci,oba]at ho;obtain⟨x',h3,⟨E1,h1'⟩,h4,ho⟩:=ho;cases ho;have hx:=zn0 h3;subst hx;obtain⟨ml,ss,g1,g2,g3,g5,g6,g7,g4⟩:=zmy L hm bs ms as _ j0 r E1 h1' ha h2 (fun k hk=>hb k (mra _ hk)) (fun k hk=>hkn k (by simp only [List.mem_append]at hk⊢;rcases hk with h|h|h<;>simp [h])) h4;refine⟨ml,ss,g1,g2,g3,g5,g6,g7,fun μ1 hw=>⟨(g4 μ1 hw).1,.cons ?_ (g4 μ1 hw).2⟩⟩;exact zva L hm h1 hV (fun k hk=>⟨hb k (mla _ hk),hkn k (by simp [hk])⟩) μ1
 | .ptr t wr owns::ms,as,us,j0,c,E0,h0,ha,hc,hb,hkn,ho=>by
  cases as with
  | nil=>simp [zaq]at hc
  | cons av as=>
   cases ha with
   | cons hV ha=>
    cases av with
    | ptr k off=>
     simp only [zaq]at hc;split at hc
     · rename_i cs hg;cases hle:Nat.ble (off+C.En.sz t) cs.length with
       | false=>rw [hle]at hc;cases hc
       | true=>
        rw [hle]at hc;simp only [cond_true,oba]at hc;have hle:=Nat.le_of_ble_eq_true hle;obtain⟨x,h1,hc⟩:=hc;split at hc
        · rename_i ks hk;rw [oba]at hc;obtain⟨r,h2,hc⟩:=hc;cases hc;simp only at hb hkn ho;simp only [zci,oba]at ho;obtain⟨x',h3,⟨E1,h1'⟩,h4,ho⟩:=ho;have hx:=zn0 h3;subst hx;split at ho
          · rename_i oz hoz;cases ho;obtain⟨ml,ss,g1,g2,g3,g5,g6,g7,g4⟩:=zmy L hm bs ms as _ (j0+1) r E1 h1' ha h2 (fun k hk=>hb k (mra _ hk))
             (fun k' hk'=>hkn k' (by simp only [List.map_cons,List.cons_append,List.mem_cons,List.mem_append]at hk'⊢;rcases hk' with h|h|h<;>simp [h])) h4
            cases hV with
            | ptr hl hbx hat=>
             rename_i lp b o';have hkk:zmj C μ H h w k:=hkn k (by simp);obtain⟨ob,r1,r2⟩:=hkk lp hl;rw [hg]at r1;cases r1;have hcl:=ztj (k:=k) L r2 hat hle;have hlen:((cs.drop off).take (C.En.sz t)).length=C.En.sz t:=by simp;omega
             obtain⟨hel,href⟩:=L.reify _ _ _ h1;obtain⟨oz1,oz2⟩:=oz;have hmem:∀k' ver ww (j:Nat),((cs.drop off).take (C.En.sz t))[j]?=some (.own k' ver ww)→(owns.contains (0+j)=false→k'∈bs)∧zmj C μ H h w k':=by
              intro k' ver ww j hj;cases hcj:owns.contains (0+j)with
              | true=>exact⟨(fun h=>by cases h),hkn k' (by simp [ztz _ _ _ _ hk hj hcj])⟩
              | false=>
               have:=zpv _ _ _ hj hcj;exact⟨fun _=>hb k' (mla _ this),hkn k' (by simp [this])⟩
             obtain⟨ml1,ss1,f1,f2,f3,f5,f6,_,f4⟩:=zqx L (zgl hm bs) (2000000+1000*j0) owns ((cs.drop off).take (C.En.sz t)) 0 (C.En.enc t x') oz1 oz2 ks (fun j=>(w.cell? ⟨b,o'+off+j,none⟩).getD undef)
              (fun j c hj=>(hcl j c hj).1) (fun k' ver ww hm'=>by obtain⟨j,hj⟩:=List.getElem?_of_mem hm';exact(hmem k' ver ww j hj).2) (by rw [hlen,L.sz])
              (fun j c c2 hj hj2=>⟨href j _ c2 (by rw [gem,hj];rfl) hj2,L.fz _ _ _ (lma hj2)⟩)
              (fun j c hj hcj=>by
               have hjl:=(gea hj).1;have hj2:j<(C.En.enc t x').length:=by rw [L.sz];omega
               exact zs7 L hm (hcl j c hj).1 (fun k' ver ww e=>by subst e;exact⟨(hmem k' ver ww j hj).1 hcj,(hmem k' ver ww j hj).2⟩) (href j _ _ (by rw [gem,hj];rfl) (lga hj2)) (L.fz _ _ _ (List.getElem_mem hj2)) zi6) hk hoz
             have hsz:lp.size=cs.length:=by
              obtain⟨_,_,b1,o1,q3,q4,_⟩:=r2;exact q4
             refine⟨(1000000+j0,⟨true,some (b,o'+off),0,0,0,C.En.sz t⟩)::(ml1++ml),some k::(ss1++ss),.cons ?_ (f1.append g1),?_,?_,?_,?_,by simp [f6,g7],fun μ1 hw=> ?_⟩
             · intro b2 o2 ⟨o3,e1,e2,e3⟩;cases e1;exact⟨k,lp,rfl,hl,hbx,o',hat,by omega,by simp only at e3;omega⟩
             · simp only [List.filterMap_cons,id_eq,List.filterMap_append,f2,List.map_cons,List.cons_append];refine List.Perm.cons _ ?_;refine(List.Perm.append_left ks g2).trans ?_;rw [←List.append_assoc,←List.append_assoc];exact List.Perm.append_right _ List.perm_append_comm
             · intro i p hp;cases i with
               | zero=>
                cases hp;exact⟨lp,b,o',hl,hbx,hat,by rw [hsz];exact hle,by simp⟩
               | succ i=>
                obtain⟨lp',b',o2,e1,e2,e3,e4,e5⟩:=g3 i p (by simpa using hp);refine⟨lp',b',o2,e1,e2,e3,e4,?_⟩;rw [show j0+(i+1)=j0+1+i by omega];exact mca _ (mra _ e5)
             · have hsub:∀x,(zcn j0 (.ptr t wr owns::ms)).contains x=false→(zcn (j0+1) ms).contains x=false:=by
                intro x hx;cases wr with
                | true=>exact hx
                | false=>simp only [zcn,List.contains_cons,Bool.or_eq_false_iff]at hx;exact hx.2
               refine .cons (fun hx k' hk'=> ?_) ((F2.of_get f1.length fun i q s hi hs _ k' hk'=> ?_).append (F2.of_get g5.length fun i q s hi hs hx k' hk'=> ?_))
               · cases hk';cases wr with
                 | true=>exact .inr ⟨_,msa,rfl,rfl⟩
                 | false=>simp [zcn]at hx
               · refine .inl (mla _ ?_);rw [←f2];exact List.mem_filterMap.2 ⟨s,lma hs,hk'⟩
               · rcases g5.get i q s hi hs (hsub _ hx) k' hk' with hh|⟨p,hp,h1,h2⟩
                 · exact .inl (mra _ hh)
                 · exact .inr ⟨p,mca _ hp,h1,h2⟩
             · intro q hq hbq;rcases mco hq with rfl|hq
               · exact⟨0,_,rfl,rfl,fun hw=>by simp only at hw;subst hw;simp [zcn]⟩
               · rcases mpa hq with hq|hq
                 · rw [f5 q hq]at hbq;cases hbq
                 · obtain⟨i,p,e1,e2,e3⟩:=g6 q hq hbq;refine⟨i+1,p,by simpa using e1,by rw [e2];omega,fun hw=> ?_⟩;have:=e3 hw;cases wr with
                   | true=>exact this
                   | false=>simp only [zcn,List.contains_cons,Bool.or_eq_true];exact .inr this
             · obtain⟨p1,p2⟩:=f4 μ1 (fun q hq=>hw q (mca _ (mla _ hq)));obtain⟨p3,p4⟩:=g4 μ1 (fun q hq=>hw q (mca _ (mra _ hq)));have hbl:=hw _ msa;simp only at hbl;refine⟨.cons ⟨rfl,rfl,rfl,b,o'+off,rfl,by rw [f3,hlen],fun j c' hj=> ?_⟩ (p1.append p3),.cons ?_ p4⟩
               · have hjl:=(gea hj).1;rw [f3]at hjl;obtain⟨_,t2,t3⟩:=hcl j _ (lga hjl);obtain⟨cv,t4⟩:=Option.isSome_iff_exists.1 t2;have:=p2 j c' hj;rw [t4]at this;exact⟨cv,t4,t3,this⟩
               · have:(Value.pointer (some ⟨b,o'+off,none⟩))= .pointer (some ⟨b,(o'+off)+0,none⟩):=by simp
                 rw [this];exact .ptr hbl rfl rfl
          · cases ho
        · cases hc
     · cases hc
    | _=>simp [zaq]at hc
 | .clo f n::ms,as,us,j0,c,E0,h0,ha,hc,hb,hkn,ho=>by
  cases as with
  | nil=>simp [zaq]at hc
  | cons av as=>
   cases ha with
   | cons hV ha=>
    cases av with
    | fn g caps=>
     simp only [zaq]at hc;cases hq:(Nat.beq f g&&Nat.beq caps.length n)with
     | false=>rw [hq]at hc;cases hc
     | true=>
      rw [hq]at hc;simp only [cond_true]at hc;simp only [baa,zca,decide_eq_true_eq]at hq;obtain⟨rfl,hn⟩:=hq;simp only [zci,oba]at ho;obtain⟨⟨E1,h1'⟩,h4,ho⟩:=ho;cases ho;obtain⟨vs,hu,hcap⟩:=zr8 hV;obtain⟨ml,ss,g1,g2,g3,g5,g6,g7,g4⟩:=zmy L hm bs ms (caps++as) (vs.toList++_) j0 c E1 _ (hcap.append ha) hc hb hkn h4;refine⟨ml,ss,g1,g2,g3,g5,g6,g7,fun μ1 hw=>⟨(g4 μ1 hw).1,?_⟩⟩;obtain⟨t1,t2⟩:=F2.take_drop (g4 μ1 hw).2 n;have hvn:vs.toList.length=n:=by rw [←hcap.length];exact hn
      rw [List.take_left' hvn]at t1;rw [List.drop_left' hvn]at t2;refine .cons ?_ t2;rw [hu];exact z6z t1
    | _=>simp [zaq]at hc
 | .bclo t f n::ms,as,us,j0,c,E0,h0,ha,hc,hb,hkn,ho=>by
  cases as with
  | nil=>simp [zaq]at hc
  | cons av as=>
   cases ha with
   | cons hV ha=>
    cases av with
    | ptr k off=>
     simp only [zaq]at hc;split at hc
     · rename_i cs hg;split at hc
       · rename_i g caps rest hcs;cases hq:((Nat.beq f g&&Nat.beq caps.length n)&&Nat.beq (C.En.sz t) 1)with
         | false=>rw [hq]at hc;cases hc
         | true=>
          rw [hq]at hc;simp only [cond_true,oba]at hc;obtain⟨r,h2,hc⟩:=hc;cases hc;simp only [baa,zca,decide_eq_true_eq]at hq;obtain⟨⟨hfg,hn⟩,hsz⟩:=hq;subst hfg;simp only at hb hkn ho;simp only [zci,oba]at ho;obtain⟨⟨E1,h1'⟩,h4,ho⟩:=ho;cases ho;cases hV with
          | ptr hl hbx hat=>
           rename_i lp b o';have hkk:zmj C μ H h w k:=hkn k (by simp);obtain⟨ob,r1,r2⟩:=hkk lp hl;rw [hg]at r1;cases r1;have hoff:off+1≤cs.length:=by
            have:=congrArg List.length hcs;rw [List.length_drop,List.length_cons]at this;omega
           have hcl:=ztj (k:=k) L r2 hat hoff 0 (.fn f caps) (by rw [hcs];rfl);rw [Nat.add_zero]at hcl;obtain⟨t1,t2,t3⟩:=hcl;obtain⟨cv,t4⟩:=Option.isSome_iff_exists.1 t2;rw [t4,Option.getD_some]at t1;obtain⟨vs,hu,hcap⟩:=zr8 t1;have hlsz:lp.size=cs.length:=by
            obtain⟨_,_,b1,o1,q3,q4,_⟩:=r2;exact q4
           obtain⟨ml,ss,g1,g2,g3,g5,g6,g7,g4⟩:=zmy L hm bs ms (caps++as) (vs.toList++_) (j0+1) r E1 _ (hcap.append ha) h2 hb
            (fun k' hk'=>hkn k' (by simp only [List.map_cons,List.cons_append,List.mem_cons,List.mem_append]at hk'⊢;rcases hk' with h|h|h<;>simp [h])) h4
           have hsub:∀x,(zcn j0 (.bclo t f n::ms)).contains x=false→(zcn (j0+1) ms).contains x=false:=by
            intro x hx;simp only [zcn,List.contains_cons,Bool.or_eq_false_iff]at hx;exact hx.2
           refine⟨(1000000+j0,⟨true,some (b,o'+off),0,0,0,C.En.sz t⟩)::ml,some k::ss,.cons ?_ g1,?_,?_,.cons (fun hx=> ?_) (F2.of_get g5.length fun i q s hi hs hx k' hk'=> ?_),?_,by simp [g7],fun μ1 hw=> ?_⟩
           · intro b2 o2 ⟨o3,e1,e2,e3⟩;cases e1;exact⟨k,lp,rfl,hl,hbx,o',hat,by omega,by simp only at e3;omega⟩
           · simp only [List.filterMap_cons,id_eq,List.map_cons,List.cons_append];exact List.Perm.cons _ g2
           · intro i p hp;cases i with
             | zero=>
              cases hp;exact⟨lp,b,o',hl,hbx,hat,by rw [hlsz,hsz];exact hoff,by simp⟩
             | succ i=>
              obtain⟨lp',b',o2,e1,e2,e3,e4,e5⟩:=g3 i p (by simpa using hp);refine⟨lp',b',o2,e1,e2,e3,e4,?_⟩;rw [show j0+(i+1)=j0+1+i by omega];exact mca _ e5
           · simp [zcn]at hx
           · rcases g5.get i q s hi hs (hsub _ hx) k' hk' with hh|⟨p,hp,h1,h2⟩
             · exact .inl hh
             · exact .inr ⟨p,mca _ hp,h1,h2⟩
           · intro q hq hbq;rcases mco hq with rfl|hq
             · exact⟨0,_,rfl,rfl,fun hw=>by simp [zcn]⟩
             · obtain⟨i,p,e1,e2,e3⟩:=g6 q hq hbq;refine⟨i+1,p,by simpa using e1,by rw [e2];omega,fun hw=> ?_⟩;have:=e3 hw;simp only [zcn,List.contains_cons,Bool.or_eq_true];exact .inr this
           · obtain⟨p3,p4⟩:=g4 μ1 (fun q hq=>hw q (mca _ hq));have hbl:=hw _ msa;simp only at hbl;obtain⟨y1,y2⟩:=F2.take_drop p4 n;have hvn:vs.toList.length=n:=by rw [←hcap.length];exact hn
             rw [List.take_left' hvn]at y1;rw [List.drop_left' hvn]at y2;refine⟨.cons ⟨rfl,rfl,rfl,b,o'+off,rfl,by rw [hsz];rfl,fun j c' hj=> ?_⟩ p3,.cons ?_ y2⟩
             · cases j with
               | zero=>
                cases hj;rw [Nat.add_zero];exact⟨cv,t4,t3,by rw [hu];exact z6z y1⟩
               | succ j=>simp at hj
             · have:(Value.pointer (some ⟨b,o'+off,none⟩))= .pointer (some ⟨b,(o'+off)+0,none⟩):=by simp
               rw [this];exact .ptr hbl rfl rfl
       · cases hc
     · cases hc
    | _=>simp [zaq]at hc
 | .mov t::ms,as,us,j0,c,E0,h0,ha,hc,hb,hkn,ho=>by
  cases as with
  | nil=>simp [zaq]at hc
  | cons av as=>
   cases ha with
   | cons hV ha=>
    cases av with
    | own k ver ww=>
     simp only [zaq]at hc;split at hc
     · rename_i ver' t' xs hg;split at hc
       · rename_i eq heq;obtain⟨eq⟩:=eq;subst eq;cases hv0:Nat.beq ver ver' with
         | false=>rw [hv0]at hc;cases hc
         | true=>
          rw [hv0]at hc;have hv0:=Nat.eq_of_beq_eq_true hv0;subst hv0;simp only [cond_true,oba]at hc;obtain⟨r,h2,hc⟩:=hc;cases hc;simp only at hb hkn ho;simp only [zci,oba]at ho;obtain⟨x',h3,⟨E1,h1'⟩,h4,ho⟩:=ho;cases ho;have hx:=zn0 h3;subst hx;obtain⟨ml,ss,g1,g2,g3,g5,g6,g7,g4⟩:=zmy L hm bs ms as _ j0 r E1 h1' ha h2 hb
           (fun k' hk'=>hkn k' (by simp only [List.cons_append,List.mem_cons,List.mem_append]at hk'⊢;rcases hk' with h|h|h<;>simp [h])) h4
          cases hV with
          | own hl hbx hv hpp hh=>
           rename_i lk;obtain⟨ob,r1,r2⟩:=hkn k (by simp) lk hl;rw [hg]at r1;cases r1;have hown:=hh r2.2.1.symm;refine⟨(6000000+ms.length,zie lk ww)::ml,some k::ss,.cons (fun b o hh=>⟨k,lk,rfl,hl,hbx,zt2 hh⟩) g1,?_,fun i p hp=> ?_,.cons (fun _ k' hk'=> ?_) (F2.of_get g5.length fun i q s hi hs hx k' hk'=> ?_),fun q hq hbq=> ?_,by simp [g7],fun μ1 hw=> ?_⟩
           · simp only [List.filterMap_cons,id_eq];exact(List.Perm.cons _ g2).trans List.perm_middle.symm
           · obtain⟨lp',b',o2,e1,e2,e3,e4,e5⟩:=g3 i p hp;exact⟨lp',b',o2,e1,e2,e3,e4,mca _ e5⟩
           · cases hk';exact .inl msa
           · rcases g5.get i q s hi hs hx k' hk' with hh|hh
             · exact .inl (mca _ hh)
             · exact .inr hh
           · rcases mco hq with rfl|hq
             · cases hbq
             · exact g6 q hq hbq
           · obtain⟨p3,p4⟩:=g4 μ1 (fun q hq=>hw q (mca _ hq));refine⟨.cons ⟨rfl,?_⟩ p3,.cons (.own (hw _ msa) rfl (Nat.le_refl _) hpp fun _=>zs2 hown) p4⟩;rw [L.ofTo];exact zt0 L (zgl hm bs) r2 hown
       · cases hc
     · cases hc
    | _=>simp [zaq]at hc
end
section
variable {U:Uni} {C:Ctx U} {μ:Mp} {H:Fz} {E:List (AV U)} {h h':za U} {a:Act} {w:World} {o:Oper} {v:AV U}
def zit (μ:Mp) (ro:List Nat) (b o:Nat):Prop:=∃k l,μ k=some l∧ro.contains k=false∧l.holds b o
def z3l (C:Ctx U) (ct:Ct U) (fresh:List Nat) (μ:Mp) (H:Fz) (w:World) (y:PT U (ct.results++ct.outs)) (u:Value) (w':World):Prop:=
 ∃rv hf ho ml H',zb6 C 9000000 fresh ((zen U (ct.results++ct.outs) y).take ct.results.length)=some (rv,hf)∧
  zhf C 0 (zmg ct.params) ((zen U (ct.results++ct.outs) y).drop ct.results.length)=some ho∧
  (ml.map (·.1)).Nodup∧zjq C.En (zc5 ml) H' w' ml (hf++ho)∧Mem (zc5 ml) H' w'∧V C.En (zc5 ml) H' rv u∧H.le H'∧
  (∀k l,(k,l)∈ml→l.box=true→μ k=some l)∧
  Wd (zit μ (zcn 0 ct.params)) w w'∧
  (∀b o,H' b o≠none→H b o≠none∨w.heap.size≤b∨∃k l,μ k=some l∧(zcn 0 ct.params).contains k=false∧l.box=false∧l.holds b o)∧
  (∀k l b o,(k,l)∈ml→l.holds b o→w.heap.size≤b∨zit μ (zcn 0 ct.params) b o)
def zif (C:Ctx U) (f:FuncId) (ct:Ct U):Prop:=
 (∃fn,C.P.funcs[f]?=some fn∧fn.body.isSome=true∧(fn.name== "runtime.NumGoroutine")=false)∧
 ∀ds y,ct.fn ds=some y→∀E0 h0,zmp C ct.params ds=some (E0,h0)→∀μ H w us,Args C.En μ H E0 us→Sim C.En μ H h0 w→GOK C H w→
  Calls C.P f us.toArray w fun
   | .returned u,w'=>z3l C ct ct.fresh μ H w y u w'
   | _,_=>False
def OOK (C:Ctx U):Prop:=∀f ct,C.O f=some ct→zif C f ct
theorem F2.mem_left {α β:Type} {R:α→β→Prop} {l:List α} {m:List β} (h:F2 R l m) {a:α} (ha:a∈l):∃b,b∈m∧R a b:=by
 induction h with
 | nil=>simp at ha
 | cons h1 _ ih=>
  rcases mco ha with rfl|ha
  · exact⟨_,msa,h1⟩
  · obtain⟨b,h2,h3⟩:=ih ha;exact⟨b,mca _ h2,h3⟩
theorem F2.mem_right {α β:Type} {R:α→β→Prop} {l:List α} {m:List β} (h:F2 R l m) {b:β} (hb:b∈m):∃a,a∈l∧R a b:=by
 induction h with
 | nil=>simp at hb
 | cons h1 _ ih=>
  rcases mco hb with rfl|hb
  · exact⟨_,msa,h1⟩
  · obtain⟨a,h2,h3⟩:=ih hb;exact⟨a,mca _ h2,h3⟩
theorem F2.split {α β:Type} {R:α→β→Prop}:∀{l:List α} {m m':List β},F2 R l (m++m')→∃l1 l2,l=l1++l2∧F2 R l1 m∧F2 R l2 m'
 | l,[],m',h=>⟨[],l,rfl,.nil,h⟩
 | _::l,b::m,m',.cons h1 h2=>by
  obtain⟨l1,l2,rfl,h3,h4⟩:=F2.split h2;exact⟨_::l1,l2,rfl,.cons h1 h3,h4⟩
def z3k (μ:Mp) (q q':Nat × Loc):Prop:=
 (q'.2.box=true∧μ q.1=some q.2∧q.2.box=true∧q.2.ver=0∧∀b o,q'.2.holds b o→q.2.holds b o)∨
 (q'.2.box=false∧∃v,q.2={q'.2 with ver:=v}∧(μ q.1=none∨∃l,μ q.1=some l∧l.box=false∧l.ver<v))
theorem zacs {l:Loc} {ww:zai} {u:Value} (v:Nat) (h:zol l ww u):zol {l with ver:=v} ww u:=h
theorem zqo (L:ELaws C.En) {μ':Mp} {H':Fz} {w':World} (base base':Nat) (owns:List Nat):∀(cs:List (AV U)) (j0:Nat) (old c1 c2:List (AV U)) (ho q:za U) (mlo:List (Nat × Loc)) (g:Nat→Value),
 zih base owns j0 cs=some (c1,ho)→zmb h base' owns j0 old cs=some (c2,q)→F2 (fun(q:Nat × Loc) (p:Nat × Ob U)=>q.1=p.1∧zcl C.En μ' H' w' q.2 p.2) mlo ho→zgt μ' mlo→
 (∀(j:Nat) c,c1[j]?=some c→V C.En μ' H' c (g j))→(∀c,c∈cs→Fzc c)→
 (∀(j k ver:Nat) ww,old[j]?=some (.own k ver ww)→owns.contains (j0+j)=true→j<cs.length→∃l,μ k=some l∧l.box=false∧l.ver=ver)→
 (∀k,zc h k=none→(∃ob,(k,ob)∈q)→μ k=none)→
 ∃mlq,F2 (z3k μ) mlq mlo∧c2.length=cs.length∧mlq.map (·.1)=q.map (·.1)∧
  ∀μ'' H'',zgt μ'' mlq→(∀c u,c∈cs→V C.En μ' H' c u→V C.En μ'' H'' c u)→(∀t xs,.lst t xs∈cs→∀l,zcl C.En μ' H' w' l (.arr 0 t xs)→∀v,zcl C.En μ'' H'' w' {l with ver:=v} (.arr v t xs))→
   zjq C.En μ'' H'' w' mlq q∧∀(j:Nat) c,c2[j]?=some c→V C.En μ'' H'' c (g j)
 | [],j0,old,c1,c2,ho,q,mlo,g,h1,h2,h3,h4,h5,h6,h7,h8=>by
  cases h1;cases h2;cases h3;exact⟨[],.nil,rfl,rfl,fun _ _ _ _ _=>⟨.nil,fun j c hj=>by simp at hj⟩⟩
 | c::cs,j0,old,c1,c2,ho,q,mlo,g,h1,h2,h3,h4,h5,h6,h7,h8=>by
  have hold':∀(j k ver:Nat) ww,old.tail[j]?=some (.own k ver ww)→owns.contains (j0+1+j)=true→j<cs.length→∃l,μ k=some l∧l.box=false∧l.ver=ver:=by
   intro j k ver ww e1 e2 e3;refine h7 (j+1) k ver ww ?_ (by rw [show j0+(j+1)=j0+1+j by omega];exact e2) (by simp;omega);rw [←e1];cases old<;>simp
  have h6':∀c,c∈cs→Fzc c:=fun c hc=>h6 c (mca _ hc);rcases zju h1 with⟨e2,r,o1,rfl⟩|⟨e2,t,xs,r,hs',rfl,o1,rfl,rfl⟩
  · unfold zmb at h2;rw [e2]at h2;simp only [oba]at h2;obtain⟨⟨r2,q'⟩,h2,hq⟩:=h2;cases hq;obtain⟨mlq,g1,g2,g4,g3⟩:=zqo L base base' owns cs (j0+1) old.tail r r2 ho q' mlo (fun j=>g (j+1)) o1 h2 h3 h4 (fun j c hj=>h5 (j+1) c (by simpa using hj)) h6' hold' h8;refine⟨mlq,g1,by simp [g2],g4,fun μ'' H'' k1 k2 k3=> ?_⟩;obtain⟨p1,p2⟩:=g3 μ'' H'' k1 (fun c u hc=>k2 c u (mca _ hc)) (fun t xs hm=>k3 t xs (mca _ hm));refine⟨p1,fun j c' hj=> ?_⟩;cases j with
    | zero=>cases hj;exact k2 _ _ msa (h5 0 _ rfl)
    | succ j=>exact p2 j c' (by simpa using hj)
  · cases h3 with
    | cons hh h3=>
     rename_i q0 mlo;obtain⟨k0,l0⟩:=q0;obtain⟨hk0,ho0⟩:=hh;simp only at hk0 ho0;have hV0:=h5 0 _ rfl;have hw0:=h4 (k0,l0) msa;have hlb:l0.box=false:=ho0.1;obtain⟨hpp,hown⟩:(∃a n cap,g 0= .slice a n cap)∧zol l0 .full (g 0):=by
      cases hV0 with
      | own hl hb hv hpp hh=>
       simp only at hw0;rw [←hk0,hw0]at hl;cases hl;exact⟨hpp,hh ho0.2.1.symm⟩
     have step:∀k v r2 q' (hq:zmb h base' owns (j0+1) old.tail cs=some (r2,q')),(μ k=none∨∃l,μ k=some l∧l.box=false∧l.ver<v)→(∀k,zc h k=none→(∃ob,(k,ob)∈q')→μ k=none)→
      ∃mlq,F2 (z3k μ) mlq ((k0,l0)::mlo)∧(AV.own k v .full::r2).length=(AV.lst t xs::cs).length∧mlq.map (·.1)=(((k,.arr v t xs)::q':za U)).map (·.1)∧
       ∀μ'' H'',zgt μ'' mlq→(∀c u,c∈AV.lst t xs::cs→V C.En μ' H' c u→V C.En μ'' H'' c u)→(∀t' xs',.lst t' xs'∈AV.lst t xs::cs→∀l,zcl C.En μ' H' w' l (.arr 0 t' xs')→∀v,zcl C.En μ'' H'' w' {l with ver:=v} (.arr v t' xs'))→
        zjq C.En μ'' H'' w' mlq ((k,.arr v t xs)::q')∧∀(j:Nat) c,(AV.own k v .full::r2)[j]?=some c→V C.En μ'' H'' c (g j):=by
      intro k v r2 q' hq hkv h8';obtain⟨mlq,g1,g2,g4,g3⟩:=zqo L base base' owns cs (j0+1) old.tail r r2 hs' q' mlo (fun j=>g (j+1)) o1 hq h3 (fun q hq=>h4 q (mca _ hq)) (fun j c hj=>h5 (j+1) c (by simpa using hj)) h6' hold' h8';refine⟨(k,{l0 with ver:=v})::mlq,.cons (.inr ⟨hlb,v,rfl,hkv⟩) g1,by simp [g2],by simp [g4],fun μ'' H'' k1 k2 k3=> ?_⟩;obtain⟨p1,p2⟩:=g3 μ'' H'' (fun q hq=>k1 q (mca _ hq)) (fun c u hc=>k2 c u (mca _ hc)) (fun t xs hm=>k3 t xs (mca _ hm));refine⟨.cons ⟨rfl,k3 t xs msa l0 ho0 v⟩ p1,fun j c' hj=> ?_⟩;cases j with
      | zero=>
       cases hj;exact .own (k1 _ msa) hlb (Nat.le_refl _) hpp fun _=>zacs v hown
      | succ j=>exact p2 j c' (by simpa using hj)
     unfold zmb at h2;rw [e2]at h2;cases hx:old.head? with
     | none=>rw [hx]at h2;cases h2
     | some c0=>
      rw [hx]at h2;cases c0 with
      | own k ver ww=>
       simp only [oba]at h2;obtain⟨⟨r2,q'⟩,h2,hq⟩:=h2;cases hq;have hold0:old[0]?=some (.own k ver ww):=by rw [←List.head?_eq_getElem?];exact hx
       obtain⟨l,f1,f2,f3⟩:=h7 0 k ver ww hold0 (by simpa using e2) (by simp);exact step k (ver+1) r2 q' h2 (.inr ⟨l,f1,f2,by omega⟩) (fun k' hk' ⟨ob,hm⟩=>h8 k' hk' ⟨ob,mca _ hm⟩)
      | sc u=>
       have key:(match zc h (base'+j0)with
        | none=>(zmb h base' owns (j0+1) old.tail cs).bind fun r=>some (.own (base'+j0) 0 .full::r.1,(base'+j0,.arr 0 t xs)::r.2)
        | some _=>none)=some (c2,q):=by
        split at h2
        · rename_i e1 e2 e3;cases e3
        · rename_i e1 e2 e3;cases e2;exact h2
        · cases h2
        · rename_i e;cases e
       cases hn:zc h (base'+j0)with
       | some ob=>rw [hn]at key;cases key
       | none=>
        rw [hn]at key;simp only [oba]at key;obtain⟨⟨r2,q'⟩,h2',hq⟩:=key;cases hq;exact step (base'+j0) 0 r2 q' h2' (.inl (h8 _ hn ⟨_,msa⟩)) (fun k' hk' ⟨ob,hm⟩=>h8 k' hk' ⟨ob,mca _ hm⟩)
      | _=>cases h2
end
section
variable {U:Uni} {C:Ctx U} {μ:Mp} {H:Fz} {E:List (AV U)} {h h':za U} {a:Act} {w:World} {o:Oper} {v:AV U}
def Conv (C:Ctx U) (μ':Mp) (H':Fz) (μ'':Mp) (H'':Fz) (w':World) (t:U.Ty):Prop:=
 ∀(x:U.den t),(∀c u,c∈C.En.enc t x→V C.En μ' H' c u→V C.En μ'' H'' c u)∧
  (∀t' xs,.lst t' xs∈C.En.enc t x→∀l,zcl C.En μ' H' w' l (.arr 0 t' xs)→∀v,zcl C.En μ'' H'' w' {l with ver:=v} (.arr v t' xs))
structure Spot (C:Ctx U) (μ:Mp) (H:Fz) (h:za U) (w:World) (S:Nat→Nat→Prop) (mlo:List (Nat × Loc)) (key:Nat) (p:Pl U):Prop where
 ex:∃lp b o cs,μ p.k=some lp∧lp.at_=some (b,o)∧zc h p.k=some (.box cs)∧zcl C.En μ H w lp (.box cs)∧p.off+C.En.sz p.ty≤cs.length∧
  (∀l',(key,l')∈mlo→l'=⟨true,some (b,o+p.off),0,0,0,C.En.sz p.ty⟩)∧
  (∀x,x<cs.length→¬(p.off≤x∧x<p.off+C.En.sz p.ty)→¬S b (o+x))∧
  (∀(j k ver:Nat) ww,(cs.drop p.off)[j]?=some (.own k ver ww)→p.owns.contains j=true→j<C.En.sz p.ty→∃l,μ k=some l∧l.box=false∧l.ver=ver)
theorem zud (L:ELaws C.En) {S:Nat→Nat→Prop} {μ':Mp} {H':Fz} {w':World} (hwd:Wd S w w'):∀(ps:List (Pl U)) (j:Nat) (ds:List (Dyn U)) (ho q:za U) (mlo:List (Nat × Loc)),
 zhf C j ps ds=some ho→zjs C h ps ds=some q→zjq C.En μ' H' w' mlo ho→zgt μ' mlo→(∀(i:Nat) p,ps[i]?=some p→p.write=true→Spot C μ H h w S mlo (1000000+(j+i)) p)→
 (∀k,zc h k=none→(∃ob,(k,ob)∈q)→μ k=none)→
 ∃mlq,F2 (z3k μ) mlq mlo∧mlq.map (·.1)=q.map (·.1)∧∀μ'' H'',zgt μ'' mlq→μ.le μ''→H.le H''→(∀p∈ps,p.write=true→Conv C μ' H' μ'' H'' w' p.ty)→zjq C.En μ'' H'' w' mlq q
 | [],j,ds,ho,q,mlo,h1,h2,h3,h4,h5,h6=>by
  cases ds with
  | cons=>cases h1
  | nil=>
   cases h1;cases h2;cases h3;exact⟨[],.nil,rfl,fun _ _ _ _ _ _=> .nil⟩
 | p::ps,j,ds,ho,q,mlo,h1,h2,h3,h4,h5,h6=>by
  unfold zhf at h1;unfold zjs at h2;cases hwr:p.write with
  | false=>
   rw [hwr]at h1 h2;obtain⟨mlq,g1,g4,g2⟩:=zud L hwd ps (j+1) ds ho q mlo h1 h2 h3 h4 (fun i p' hp hw'=>by rw [show j+1+i=j+(i+1)by omega];exact h5 (i+1) p' (by simpa using hp) hw') h6;exact⟨mlq,g1,g4,fun μ'' H'' k1 k2 k3 k4=>g2 μ'' H'' k1 k2 k3 fun p' hp=>k4 p' (mca _ hp)⟩
  | true=>
   rw [hwr]at h1 h2;cases ds with
   | nil=>cases h1
   | cons d ds=>
    simp only [oba]at h1 h2;obtain⟨x,hx,⟨c1,hs1⟩,hoz,r,hr,h1⟩:=h1;cases h1;obtain⟨x',hx',h2⟩:=h2;rw [hx]at hx';cases hx';obtain⟨lp,b,o',cs,e1,e2,e3,e4,e5,e6,e7,e8⟩:=(h5 0 p rfl hwr).ex;rw [e3]at h2;simp only at h2;cases hre:zmb h (3000000+1000*p.k) p.owns 0 (cs.drop p.off) (C.En.enc p.ty x)with
    | none=>rw [hre]at h2;cases h2
    | some rr=>
     obtain⟨c2,q1⟩:=rr;rw [hre]at h2;simp only [oba]at h2;obtain⟨q2,h2,hq⟩:=h2;cases hq;cases h3 with
     | cons hh h3=>
      rename_i q0 mlo;obtain⟨k0,l0⟩:=q0;obtain⟨hk0,ho0⟩:=hh;simp only at hk0 ho0;subst hk0;have hl0:=e6 l0 (by rw [Nat.add_zero];exact msa);subst hl0;obtain⟨ml1,ml2,rfl,hf1,hf2⟩:=F2.split h3;obtain⟨_,_,b2,o2,e9,e10,e11⟩:=ho0;cases e9;simp only at e10;have hc1:∀(jj:Nat) c,c1[jj]?=some c→V C.En μ' H' c ((w'.cell? ⟨b,o'+p.off+jj,none⟩).getD undef):=by
       intro jj c hj;obtain⟨u,t1,_,t3⟩:=e11 jj c hj;rw [t1];exact t3
      obtain⟨mlq1,g1,g2,g4,g3⟩:=zqo (h:=h) (μ:=μ) L (2000000+1000*j) (3000000+1000*p.k) p.owns (C.En.enc p.ty x) 0 (cs.drop p.off) c1 c2 hs1 q1 ml1 (fun jj=>(w'.cell? ⟨b,o'+p.off+jj,none⟩).getD undef) hoz hre hf1
       (fun q hq=>h4 q (mca _ (mla _ hq))) hc1 (fun c hc=>L.fz _ _ _ hc) (fun jj k ver ww t1 t2 t3=>e8 jj k ver ww t1 (by simpa using t2) (by rw [L.sz]at t3;exact t3))
       (fun k t1 ⟨ob,t2⟩=>h6 k t1 ⟨ob,mca _ (mla _ t2)⟩)
      obtain⟨mlq2,f1,f3,f2⟩:=zud L hwd ps (j+1) ds r q2 ml2 hr h2 hf2 (fun q hq=>h4 q (mca _ (mra _ hq)))
       (fun i p' hp hw'=>by
        obtain⟨lp',b',o2,cs',t1,t2,t3,t4,t5,t6,t7,t8⟩:=(h5 (i+1) p' (by simpa using hp) hw').ex;exact⟨lp',b',o2,cs',t1,t2,t3,t4,t5,fun l' hl'=>t6 l' (by rw [show j+(i+1)=j+1+i by omega];exact mca _ (mra _ hl')),t7,t8⟩)
       (fun k t1 ⟨ob,t2⟩=>h6 k t1 ⟨ob,mca _ (mra _ t2)⟩)
      obtain⟨e12,e13,b3,o3,e14,e15,e16⟩:=e4;rw [e2]at e14;cases e14;refine⟨(p.k,lp)::(mlq1++mlq2),.cons (.inl ⟨rfl,e1,e12,e13,fun b2 o2 ⟨o3,t1,t2,t3⟩=> ?_⟩) (g1.append f1),by simp [g4,f3],fun μ'' H'' k1 k2 k3 k4=> ?_⟩
      · cases t1;simp only at t2 t3;exact⟨o',e2,by omega,by show o2<o'+lp.size;omega⟩
      · obtain⟨cv1,cv2⟩:=k4 p msa hwr x;obtain⟨p1,p2⟩:=g3 μ'' H'' (fun q hq=>k1 q (mca _ (mla _ hq))) cv1 cv2;have p3:=f2 μ'' H'' (fun q hq=>k1 q (mca _ (mra _ hq))) k2 k3 (fun p' hp=>k4 p' (mca _ hp));refine .cons ⟨rfl,e12,e13,b,o',e2,?_,fun x' c hj=> ?_⟩ (p1.append p3)
        · rw [zmm (by rw [g2,L.sz];exact e5)];exact e15
        · rw [zl8 (by rw [g2,L.sz];exact e5)]at hj;rw [g2,L.sz]at hj
          by_cases hin:p.off≤x'∧x'<p.off+C.En.sz p.ty
          · rw [if_pos hin]at hj;have hlt:x'-p.off<c1.length:=by rw [←e10];omega
            obtain⟨u,t1,t2,t3⟩:=e11 (x'-p.off) _ (lga hlt);have hv:=p2 (x'-p.off) c hj;rw [t1]at hv;rw [show o'+p.off+(x'-p.off)=o'+x' by omega]at t1 t2;exact⟨u,t1,t2,hv⟩
          · rw [if_neg hin]at hj;obtain⟨u,t1,t2,t3⟩:=e16 x' c hj;have hb:b<w.heap.size:=zgo t1;have hn:=e7 x' (gea hj).1 hin;exact⟨u,by rw [hwd.cell hb hn];exact t1,by rw [hwd.frozen hb];exact t2,t3.mono k3 k2⟩
end
section
variable {U:Uni} {C:Ctx U} {μ:Mp} {H:Fz} {E:List (AV U)} {h h':za U} {a:Act} {w:World} {o:Oper} {v:AV U}
theorem zsh {base:Nat} {owns:List Nat}:∀(cs:List (AV U)) (j:Nat) (c2:List (AV U)) (q:za U),zih base owns j cs=some (c2,q)→(∀p∈q,zc h p.1=none)→zmb h base owns j (cs.map fun _=> .sc (.slice none 0 0)) cs=some (c2,q)
 | [],j,c2,q,ho,_=>by cases ho;rfl
 | c::cs,j,c2,q,ho,hn=>by
  rcases zju ho with⟨e2,r,o1,rfl⟩|⟨e2,t,xs,r,hs',rfl,o1,rfl,rfl⟩
  · have ih:=zsh cs (j+1) r q o1 hn;unfold zmb;rw [e2];simp only [List.map_cons,List.tail_cons,ih,obz]
  · have ih:=zsh cs (j+1) r hs' o1 (fun p hp=>hn p (mca _ hp));have h0:=hn _ msa;unfold zmb;rw [e2];simp only [List.map_cons,List.head?_cons,List.tail_cons,ih,obz];simp only at h0;rw [h0]
theorem zrm (L:ELaws C.En) {μ' μ'':Mp} {H' H'':Fz} {t:U.Ty} {x:U.den t} {u:Value} (hc:∀c u,c∈C.En.enc t x→V C.En μ' H' c u→V C.En μ'' H'' c u) (hV:V C.En μ' H' (C.En.value t x) u):V C.En μ'' H'' (C.En.value t x) u:=by
 unfold Enc.value at hV⊢
 cases ha:C.En.agg t with
 | true=>
  rw [ha]at hV;simp only [cond_true]at hV⊢;cases hV with
  | agg hn hv=>exact .agg hn fun j c hj=>hc c _ (lma hj) (hv j c hj)
 | false=>
  rw [ha]at hV;simp only [cond_false]at hV⊢;refine hc _ _ ?_ hV;have:0<(C.En.enc t x).length:=by rw [L.sz];exact L.pos t
  cases hq:C.En.enc t x with
  | nil=>rw [hq]at this;simp at this
  | cons c l=>simp
theorem z1t (L:ELaws C.En) {μ':Mp} {H':Fz} {w':World} {base:Nat} {fresh:List Nat} {rd:List (Dyn U)} {rv r1:AV U} {hf qr:za U} {mlf:List (Nat × Loc)} {u:Value}
 (h1:zb6 C 9000000 fresh rd=some (rv,hf)) (h2:zb6 C base fresh rd=some (r1,qr)) (h3:zjq C.En μ' H' w' mlf hf) (h4:zgt μ' mlf) (hV:V C.En μ' H' rv u) (hn:∀p∈qr,zc h p.1=none) (hfr:∀p∈qr,μ p.1=none):
 ∃mlr,F2 (z3k μ) mlr mlf∧mlr.map (·.1)=qr.map (·.1)∧∀μ'' H'',zgt μ'' mlr→(∀d∈rd,Conv C μ' H' μ'' H'' w' d.ty)→zjq C.En μ'' H'' w' mlr qr∧V C.En μ'' H'' r1 u:=by
 cases fresh with
 | nil=>
  have e1:hf=[]∧qr=[]∧rv=r1:=by
   unfold zb6 at h1 h2;split at h1<;>simp at h1 h2<;>obtain⟨rfl,rfl⟩:=h1<;>obtain⟨rfl,rfl⟩:=h2<;>exact⟨rfl,rfl,rfl⟩
  obtain⟨rfl,rfl,rfl⟩:=e1;cases h3;refine⟨[],.nil,rfl,fun μ'' H'' _ hc=>⟨.nil,?_⟩⟩;unfold zb6 at h1;split at h1
  · rename_i d;simp at h1;subst h1;exact zrm L (hc d msa d.val).1 hV
  · simp at h1;subst h1;cases hV with
    | tup hn' hv=>
     refine .tup hn' fun j c hj=> ?_;have:=hv j c hj;rw [gem,oma]at hj;obtain⟨d,hd,rfl⟩:=hj;exact zrm L (hc d (lma hd) d.val).1 this
 | cons f0 fresh=>
  match rd with
  | []=>simp [zb6]at h1
  | _::_::_=>simp [zb6]at h1
  | [d]=>
   simp only [zb6,oba]at h1 h2;obtain⟨⟨c1,hs⟩,o1,e1⟩:=h1;obtain⟨⟨c2,q⟩,o2,e2⟩:=h2;cases e1;cases e2;simp only at hV hn hfr h3;have hre:=zsh _ _ _ _ o2 hn;have hl1:c1.length=(C.En.enc d.ty d.val).length∧c2.length=(C.En.enc d.ty d.val).length:=by
    have key:∀(base:Nat) (cs:List (AV U)) (j:Nat) (c1:List (AV U)) (hs:za U),zih base (f0::fresh) j cs=some (c1,hs)→c1.length=cs.length:=by
     intro base cs
     induction cs with
     | nil=>intro j c1 hs h;cases h;rfl
     | cons c cs ih=>
      intro j c1 hs h;rcases zju h with⟨_,r,o1,rfl⟩|⟨_,t,xs,r,hs',rfl,o1,rfl,rfl⟩<;>simp [ih _ _ _ o1]
    exact⟨key _ _ _ _ _ o1,key _ _ _ _ _ o2⟩
   have hg:∃g:Nat→Value,(∀(j:Nat) c,c1[j]?=some c→V C.En μ' H' c (g j))∧∀μ'' H'',(∀(j:Nat) c,c2[j]?=some c→V C.En μ'' H'' c (g j))→V C.En μ'' H'' (cond (C.En.agg d.ty) (.agg c2) (c2.headD .dead)) u:=by
    cases ha:C.En.agg d.ty with
    | true=>
     rw [ha]at hV;simp only [cond_true]at hV;cases hV with
     | agg hn' hv=>
      rename_i us;exact⟨fun j=>us.getD j undef,hv,fun μ'' H'' hh=> .agg (by rw [hl1.2,←hl1.1];exact hn') hh⟩
    | false=>
     rw [ha]at hV;simp only [cond_false]at hV;have h11:(C.En.enc d.ty d.val).length=1:=by rw [L.sz];exact L.one _ ha
     refine⟨fun _=>u,fun j c hj=> ?_,fun μ'' H'' hh=> ?_⟩
     · have:j=0:=by have:=(gea hj).1;omega
       subst this;cases c1 with
       | nil=>simp at hj
       | cons c' l=>cases hj;exact hV
     · cases c2 with
       | nil=>have:=hl1.2;rw [h11]at this;simp at this
       | cons c' l=>exact hh 0 _ rfl
   obtain⟨g,hg1,hg2⟩:=hg;obtain⟨mlr,g1,g2,g4,g3⟩:=zqo (h:=h) (μ:=μ) L 9000000 base (f0::fresh) (C.En.enc d.ty d.val) 0 _ c1 c2 hs q mlf g o1 hre h3 h4 hg1 (fun c hc=>L.fz _ _ _ hc) (fun j k ver ww t1 _ _=>by
    rw [gem,oma]at t1;obtain⟨_,_,t1⟩:=t1;cases t1) (fun k t1 ⟨ob,t2⟩=>hfr _ t2)
   refine⟨mlr,g1,g4,fun μ'' H'' k1 k2=> ?_⟩;obtain⟨cv1,cv2⟩:=k2 d msa d.val;obtain⟨p1,p2⟩:=g3 μ'' H'' k1 cv1 cv2;exact⟨p1,hg2 μ'' H'' p2⟩
theorem zvy {base:Nat} {owns:List Nat}:∀(cs:List (AV U)) (j0:Nat) (c1:List (AV U)) (hs:za U),zih base owns j0 cs=some (c1,hs)→c1.length=cs.length∧
 ∀(j:Nat) c c2,c1[j]?=some c→cs[j]?=some c2→c=c2∨∃key t xs,c= .own key 0 .full∧c2= .lst t xs∧(key,Ob.arr 0 t xs)∈hs
 | [],j0,c1,hs,h=>by cases h;exact⟨rfl,fun j c c2 h1=>by simp at h1⟩
 | c::cs,j0,c1,hs,h=>by
  rcases zju h with⟨_,r,o1,rfl⟩|⟨_,t,xs,r,hs',rfl,o1,rfl,rfl⟩
  · obtain⟨h1,h2⟩:=zvy cs (j0+1) r hs o1;refine⟨by simp [h1],fun j c' c2 e1 e2=> ?_⟩;cases j with
    | zero=>cases e1;cases e2;exact .inl rfl
    | succ j=>exact h2 j c' c2 (by simpa using e1) (by simpa using e2)
  · obtain⟨h1,h2⟩:=zvy cs (j0+1) r hs' o1;refine⟨by simp [h1],fun j c' c2 e1 e2=> ?_⟩;cases j with
    | zero=>cases e1;cases e2;exact .inr ⟨_,t,xs,rfl,rfl,msa⟩
    | succ j=>
     rcases h2 j c' c2 (by simpa using e1) (by simpa using e2)with h|⟨key,t',xs',a1,a2,a3⟩
     · exact .inl h
     · exact .inr ⟨key,t',xs',a1,a2,mca _ a3⟩
theorem zaau (L:ELaws C.En) {ml:List (Nat × Loc)} {H':Fz} {w':World} {base:Nat} {fresh:List Nat} {rd:List (Dyn U)} {rv r1:AV U} {hf hr qr:za U} {u:Value} {fk:List Nat}
 (h1:zb6 C 9000000 fresh rd=some (rv,hf)) (h2:zb6 C base [] rd=some (r1,qr)) (hm:Mem (zc5 ml) H' w') (hk:∀p∈hf,p.1∈fk∧zc hr p.1=some p.2∧zmj C (zc5 ml) H' hr w' p.1) (hV:V C.En (zc5 ml) H' rv u) (μ1:Mp):
 qr=[]∧V C.En μ1 (zcp (zc5 ml) H' w' fk) r1 u:=by
 have fz:∀(d:Dyn U) c u,c∈C.En.enc d.ty d.val→V C.En (zc5 ml) H' c u→V C.En μ1 (zcp (zc5 ml) H' w' fk) c u:=fun d c u hc hv=>
  (hv.mono (zgl hm fk) (Mp.le_refl _)).shift L μ1 (L.fz _ _ _ hc).fza
 cases fresh with
 | nil=>
  have e1:qr=[]∧rv=r1:=by
   unfold zb6 at h1 h2;split at h1<;>simp at h1 h2<;>obtain⟨rfl,rfl⟩:=h1<;>obtain⟨rfl,rfl⟩:=h2<;>exact⟨rfl,rfl⟩
  obtain⟨rfl,rfl⟩:=e1;refine⟨rfl,?_⟩;unfold zb6 at h1;split at h1
  · rename_i d;simp at h1;obtain⟨rfl,rfl⟩:=h1;exact zrm L (fz d) hV
  · simp at h1;obtain⟨rfl,rfl⟩:=h1;cases hV with
    | tup hn' hv=>
     refine .tup hn' fun j c hj=> ?_;have:=hv j c hj;rw [gem,oma]at hj;obtain⟨d,hd,rfl⟩:=hj;exact zrm L (fz d) this
 | cons f0 fresh=>
  match rd with
  | []=>simp [zb6]at h1
  | _::_::_=>simp [zb6]at h1
  | [d]=>
   simp only [zb6,oba]at h1;simp only [zb6,Option.some.injEq,Prod.mk.injEq]at h2;obtain⟨⟨c1,hs⟩,o1,e1⟩:=h1;cases e1;obtain⟨rfl,rfl⟩:=h2;refine⟨rfl,?_⟩;obtain⟨hl,hget'⟩:=zvy _ _ _ _ o1;have key:∀(j:Nat) c2 u,(C.En.enc d.ty d.val)[j]?=some c2→(∀c,c1[j]?=some c→V C.En (zc5 ml) H' c u)→V C.En μ1 (zcp (zc5 ml) H' w' fk) c2 u:=by
    intro j c2 u hj hv;have hjl:j<c1.length:=by rw [hl];exact(gea hj).1
    have h0:=lga hjl;have hv0:=hv _ h0;rcases hget' j _ c2 h0 hj with e|⟨key,t,xs,e1,rfl,e3⟩
    · rw [e]at hv0;exact fz d c2 u (lma hj) hv0
    · rw [e1]at hv0;obtain⟨k1,k2,k3⟩:=hk _ e3;exact z0r L hm k1 k3 k2 hv0 μ1
   simp only at hV;unfold Enc.value;cases ha:C.En.agg d.ty with
   | true=>
    rw [ha]at hV;simp only [cond_true]at hV⊢;cases hV with
    | agg hn' hv=>exact .agg (by rw [←hl];exact hn') fun j c hj=>key j c _ hj fun c' hc'=>hv j c' hc'
   | false=>
    rw [ha]at hV;simp only [cond_false]at hV⊢;have h11:(C.En.enc d.ty d.val).length=1:=by rw [L.sz];exact L.one _ ha
    refine key 0 _ u ?_ fun c hc=> ?_
    · cases hq:C.En.enc d.ty d.val with
      | nil=>rw [hq]at h11;simp at h11
      | cons c l=>rfl
    · cases c1 with
      | nil=>simp at hc
      | cons c' l=>cases hc;exact hV
end
section
variable {U:Uni} {C:Ctx U} {μ:Mp} {H:Fz} {E:List (AV U)} {h h':za U} {a:Act} {w:World} {o:Oper} {v:AV U}
theorem zjx:∀(l:za U) (h:za U) (k:Nat),zc (zn5 l h) k=match zc l k with|some ob=>some ob|none=>zc h k
 | [],h,k=>rfl
 | (k',ob)::l,h,k=>by
  simp only [zn5,zdx,zc,zca]
  by_cases e:k=k'
  · simp [e]
  · simp [e,zjx l h k]
theorem zsm:∀{l:za U} {k:Nat} {ob:Ob U},zc l k=some ob→(k,ob)∈l
 | [],_,_,h=>by cases h
 | (k',o')::l,k,ob,h=>by
  simp only [zc,zca]at h
  by_cases e:k=k'
  · simp [e]at h;rw [e,h];exact msa
  · simp [e]at h;exact mca _ (zsm h)
theorem z0p:∀{l:za U} {k:Nat} {ob:Ob U},(k,ob)∈l→zc l k≠none
 | [],_,_,h=>by simp at h
 | (k',o')::l,k,ob,h=>by
  simp only [zc,zca]
  by_cases e:k=k'
  · simp [e]
  · simp [e];rcases mco h with h|h
    · cases h;exact absurd rfl e
    · exact z0p h
theorem zj2:∀{l:za U} {k:Nat} {ob:Ob U},(l.map (·.1)).Nodup→(k,ob)∈l→zc l k=some ob
 | [],_,_,_,h=>by simp at h
 | (k',o')::l,k,ob,hn,h=>by
  simp only [List.map_cons,List.nodup_cons]at hn;simp only [zc,zca];rcases mco h with h|h
  · cases h;simp
  · have:¬k=k':=fun e=>hn.1 (e▸List.mem_map.2 ⟨(k,ob),h,rfl⟩);simp [this];exact zj2 hn.2 h
def zu6 (C:Ctx U) (h:za U) (p:Pl U) (ks:List Nat):Prop:=∃cs,zc h p.k=some (.box cs)∧p.off+C.En.sz p.ty≤cs.length∧ze4 h p.owns 0 ((cs.drop p.off).take (C.En.sz p.ty))=some ks
theorem z11:∀(cs:List (AV U)) (j:Nat),ze4 h [] j cs=some []
 | [],_=>rfl
 | c::cs,j=>by
  show ze4 h [] (j+1) cs=_;exact z11 cs (j+1)
theorem zk9:∀(ms:List (Md U)) (as:List (AV U)) (c:Coll U),zaq C h ms as=some c→
 (∀p∈c.ps,∃ks,zu6 C h p ks∧∀k∈ks,k∈c.ks)∧(∀k∈c.ks,(∃p∈c.ps,∃ks,zu6 C h p ks∧k∈ks)∨∃ob,(k,ob)∈c.mv)∧(∀j ds,zhf C j (zmg ms) ds=zhf C j c.ps ds)
 | [],as,c,hc=>by
  cases as with
  | cons=>simp [zaq]at hc
  | nil=>
   simp only [zaq,Option.some.injEq]at hc;subst hc;exact⟨fun p hp=>by simp at hp,fun k hk=>by simp at hk,fun j ds=>rfl⟩
 | .val t::ms,as,c,hc=>by
  cases as with
  | nil=>simp [zaq]at hc
  | cons av as=>
   simp only [zaq,oba]at hc;obtain⟨x,h1,r,h2,hc⟩:=hc;cases hc;exact zk9 ms as r h2
 | .ptr t wr owns::ms,as,c,hc=>by
  cases as with
  | nil=>simp [zaq]at hc
  | cons av as=>
   cases av with
   | ptr k off=>
    simp only [zaq]at hc;split at hc
    · rename_i cs hg;cases hle:Nat.ble (off+C.En.sz t) cs.length with
      | false=>rw [hle]at hc;cases hc
      | true=>
       rw [hle]at hc;simp only [cond_true,oba]at hc;obtain⟨x,h1,hc⟩:=hc;split at hc
       · rename_i ks hk;rw [oba]at hc;obtain⟨r,h2,hc⟩:=hc;cases hc;obtain⟨g1,g2,g3⟩:=zk9 ms as r h2;refine⟨fun p hp=> ?_,fun k' hk'=> ?_,fun j ds=> ?_⟩
         · rcases mco hp with rfl|hp
           · exact⟨ks,⟨cs,hg,Nat.le_of_ble_eq_true hle,hk⟩,fun k hk=>mla _ hk⟩
           · obtain⟨ks',a1,a2⟩:=g1 p hp;exact⟨ks',a1,fun k hk=>mra _ (a2 k hk)⟩
         · rcases mpa hk' with hk'|hk'
           · exact .inl ⟨_,msa,ks,⟨cs,hg,Nat.le_of_ble_eq_true hle,hk⟩,hk'⟩
           · rcases g2 k' hk' with⟨p,a1,a2⟩|hm
             · exact .inl ⟨p,mca _ a1,a2⟩
             · exact .inr hm
         · simp only [zmg];unfold zhf;cases wr with
           | true=>cases ds<;>simp [g3]
           | false=>simp [g3]
       · cases hc
    · cases hc
   | _=>simp [zaq]at hc
 | .clo f n::ms,as,c,hc=>by
  cases as with
  | nil=>simp [zaq]at hc
  | cons av as=>
   cases av with
   | fn g caps=>
    simp only [zaq]at hc;cases hq:(Nat.beq f g&&Nat.beq caps.length n)with
    | false=>rw [hq]at hc;cases hc
    | true=>
     rw [hq]at hc;exact zk9 ms (caps++as) c hc
   | _=>simp [zaq]at hc
 | .bclo t f n::ms,as,c,hc=>by
  cases as with
  | nil=>simp [zaq]at hc
  | cons av as=>
   cases av with
   | ptr k off=>
    simp only [zaq]at hc;split at hc
    · rename_i cs hg;split at hc
      · rename_i g caps rest hcs;cases hq:((Nat.beq f g&&Nat.beq caps.length n)&&Nat.beq (C.En.sz t) 1)with
        | false=>rw [hq]at hc;cases hc
        | true=>
         rw [hq]at hc;simp only [cond_true,oba]at hc;obtain⟨r,h2,hc⟩:=hc;cases hc;obtain⟨g1,g2,g3⟩:=zk9 ms (caps++as) r h2;have hsz:=Nat.eq_of_beq_eq_true ((baa _ _).mp hq).2;have hoff:off+1≤cs.length:=by
          have:=congrArg List.length hcs;rw [List.length_drop,List.length_cons]at this;omega
         refine⟨fun p hp=> ?_,fun k' hk'=> ?_,fun j ds=> ?_⟩
         · rcases mco hp with rfl|hp
           · exact⟨[],⟨cs,hg,by rw [hsz];exact hoff,z11 _ _⟩,fun k hk=>by simp at hk⟩
           · exact g1 p hp
         · rcases g2 k' hk' with⟨p,a1,a2⟩|hm
           · exact .inl ⟨p,mca _ a1,a2⟩
           · exact .inr hm
         · simp only [zmg];unfold zhf;simp [g3]
      · cases hc
    · cases hc
   | _=>simp [zaq]at hc
 | .mov t::ms,as,c,hc=>by
  cases as with
  | nil=>simp [zaq]at hc
  | cons av as=>
   cases av with
   | own k ver ww=>
    simp only [zaq]at hc;split at hc
    · split at hc
      · rename_i ver' t' xs hg _ eq heq;cases hv0:Nat.beq ver ver' with
        | false=>rw [hv0]at hc;cases hc
        | true=>
         rw [hv0]at hc;simp only [cond_true,oba]at hc;obtain⟨r,h2,hc⟩:=hc;cases hc;obtain⟨g1,g2,g3⟩:=zk9 ms as r h2;refine⟨fun p hp=> ?_,fun k' hk'=> ?_,g3⟩
         · obtain⟨ks',a1,a2⟩:=g1 p hp;exact⟨ks',a1,fun k hk=>mca _ (a2 k hk)⟩
         · rcases mco hk' with rfl|hk'
           · exact .inr ⟨_,msa⟩
           · rcases g2 k' hk' with hm|⟨ob,hm⟩
             · exact .inl hm
             · exact .inr ⟨ob,mca _ hm⟩
      · cases hc
    · cases hc
   | _=>simp [zaq]at hc
theorem zjp:∀(ms:List (Md U)) (as:List (AV U)) (c:Coll U),zaq C h ms as=some c→
 (∀p∈c.mv,p.1∈c.ks∧∃ver t xs,zc h p.1=some (.arr ver t xs)∧p.2= .arr (ver+1) t [])∧(zs4 ms=true→c.mv=[])
 | [],as,c,hc=>by
  cases as with
  | cons=>simp [zaq]at hc
  | nil=>
   simp only [zaq,Option.some.injEq]at hc;subst hc;exact⟨fun p hp=>by simp at hp,fun _=>rfl⟩
 | .val t::ms,as,c,hc=>by
  cases as with
  | nil=>simp [zaq]at hc
  | cons av as=>
   simp only [zaq,oba]at hc;obtain⟨x,h1,r,h2,hc⟩:=hc;cases hc;exact zjp ms as r h2
 | .ptr t wr owns::ms,as,c,hc=>by
  cases as with
  | nil=>simp [zaq]at hc
  | cons av as=>
   cases av with
   | ptr k off=>
    simp only [zaq]at hc;split at hc
    · rename_i cs hg;cases hle:Nat.ble (off+C.En.sz t) cs.length with
      | false=>rw [hle]at hc;cases hc
      | true=>
       rw [hle]at hc;simp only [cond_true,oba]at hc;obtain⟨x,h1,hc⟩:=hc;split at hc
       · rename_i ks hk;rw [oba]at hc;obtain⟨r,h2,hc⟩:=hc;cases hc;obtain⟨g1,g2⟩:=zjp ms as r h2;exact⟨fun p hp=>⟨mra _ (g1 p hp).1,(g1 p hp).2⟩,g2⟩
       · cases hc
    · cases hc
   | _=>simp [zaq]at hc
 | .clo f n::ms,as,c,hc=>by
  cases as with
  | nil=>simp [zaq]at hc
  | cons av as=>
   cases av with
   | fn g caps=>
    simp only [zaq]at hc;cases hq:(Nat.beq f g&&Nat.beq caps.length n)with
    | false=>rw [hq]at hc;cases hc
    | true=>
     rw [hq]at hc;exact zjp ms (caps++as) c hc
   | _=>simp [zaq]at hc
 | .bclo t f n::ms,as,c,hc=>by
  cases as with
  | nil=>simp [zaq]at hc
  | cons av as=>
   cases av with
   | ptr k off=>
    simp only [zaq]at hc;split at hc
    · rename_i cs hg;split at hc
      · rename_i g caps rest hcs;cases hq:((Nat.beq f g&&Nat.beq caps.length n)&&Nat.beq (C.En.sz t) 1)with
        | false=>rw [hq]at hc;cases hc
        | true=>
         rw [hq]at hc;simp only [cond_true,oba]at hc;obtain⟨r,h2,hc⟩:=hc;cases hc;exact zjp ms (caps++as) r h2
      · cases hc
    · cases hc
   | _=>simp [zaq]at hc
 | .mov t::ms,as,c,hc=>by
  cases as with
  | nil=>simp [zaq]at hc
  | cons av as=>
   cases av with
   | own k ver ww=>
    simp only [zaq]at hc;split at hc
    · rename_i ver' t' xs hg;split at hc
      · rename_i eq heq;obtain⟨eq⟩:=eq;subst eq;cases hv0:Nat.beq ver ver' with
        | false=>rw [hv0]at hc;cases hc
        | true=>
         rw [hv0]at hc;have hv0:=Nat.eq_of_beq_eq_true hv0;subst hv0;simp only [cond_true,oba]at hc;obtain⟨r,h2,hc⟩:=hc;cases hc;obtain⟨g1,g2⟩:=zjp ms as r h2;refine⟨fun p hp=> ?_,fun hn=> ?_⟩
         · rcases mco hp with rfl|hp
           · exact⟨msa,ver,_,xs,hg,rfl⟩
           · exact⟨mca _ (g1 p hp).1,(g1 p hp).2⟩
         · simp [zs4,Md.isMov]at hn
      · cases hc
    · cases hc
   | _=>simp [zaq]at hc
theorem zty {cs:List (AV U)}:∀(j:Nat) (ks:List Nat),ze4 h [] j cs=some ks→ks=[]:=by
 induction cs with
 | nil=>intro j ks hk;cases hk;rfl
 | cons c cs ih=>
  intro j ks hk;rcases zkm hk with⟨_,h1⟩|⟨h1,_⟩|⟨h1,_⟩
  · exact ih _ _ h1
  · simp at h1
  · simp at h1
theorem zpe {base:Nat} {owns:List Nat}:∀(new:List (AV U)) (j:Nat) (old c2:List (AV U)) (q:za U) (ks:List Nat),zmb h base owns j old new=some (c2,q)→ze4 h owns j (old.take new.length)=some ks→
 (∀k∈ks,∃ob,(k,ob)∈q)∧∀k ob,(k,ob)∈q→k∈ks∨zc h k=none
 | [],j,old,c2,q,ks,h1,h2=>by
  cases h1;simp only [List.length_nil,List.take_zero]at h2;cases h2;exact⟨fun k hk=>by simp at hk,fun k ob hk=>by simp at hk⟩
 | c::new,j,old,c2,q,ks,h1,h2=>by
  unfold zmb at h1;cases hc:owns.contains j with
  | false=>
   rw [hc]at h1;simp only [oba]at h1;obtain⟨⟨r2,q'⟩,h1,hq⟩:=h1;cases hq;cases old with
   | nil=>
    have:=zpe new (j+1) [] r2 q' ks h1 (by simpa [ze4]using h2);exact this
   | cons c0 old=>
    simp only [List.length_cons,List.take_succ_cons]at h2;rcases zkm h2 with⟨_,h3⟩|⟨e,_⟩|⟨e,_⟩
    · exact zpe new (j+1) old r2 q' ks h1 h3
    · rw [hc]at e;cases e
    · rw [hc]at e;cases e
  | true=>
   rw [hc]at h1;cases old with
   | nil=>cases c<;>simp at h1
   | cons c0 old=>
    simp only [List.length_cons,List.take_succ_cons]at h2;simp only [List.head?_cons,List.tail_cons]at h1;rcases zkm h2 with⟨e,_⟩|⟨_,rfl,h3⟩|⟨_,k,ver,ww,t,xs,ks',rfl,_,h3,rfl⟩
    · rw [hc]at e;cases e
    · cases c with
      | lst t xs=>
       simp only at h1;split at h1
       · rename_i hn;rw [oba]at h1;obtain⟨⟨r2,q'⟩,h1,hq⟩:=h1;cases hq;obtain⟨g1,g2⟩:=zpe new (j+1) old r2 q' ks h1 h3;refine⟨fun k hk=> ?_,fun k ob hk=> ?_⟩
         · obtain⟨ob,hm⟩:=g1 k hk;exact⟨ob,mca _ hm⟩
         · rcases mco hk with hk|hk
           · cases hk;exact .inr hn
           · exact g2 k ob hk
       · cases h1
      | _=>simp at h1
    · cases c with
      | lst t2 xs2=>
       simp only [oba]at h1;obtain⟨⟨r2,q'⟩,h1,hq⟩:=h1;cases hq;obtain⟨g1,g2⟩:=zpe new (j+1) old r2 q' ks' h1 h3;refine⟨fun k' hk=> ?_,fun k' ob hk=> ?_⟩
       · rcases mco hk with rfl|hk
         · exact⟨_,msa⟩
         · obtain⟨ob,hm⟩:=g1 k' hk;exact⟨ob,mca _ hm⟩
       · rcases mco hk with hk|hk
         · cases hk;exact .inl msa
         · exact(g2 k' ob hk).imp (mca _) id
      | _=>simp at h1
theorem znp (L:ELaws C.En):∀(ps:List (Pl U)) (ds:List (Dyn U)) (q:za U),zjs C h ps ds=some q→
 (∀p∈ps,p.write=true→(∃ob,(p.k,ob)∈q)∧∀ks,zu6 C h p ks→∀k∈ks,∃ob,(k,ob)∈q)∧
 ∀k ob,(k,ob)∈q→(∃p∈ps,p.write=true∧p.k=k)∨(∃p∈ps,p.write=true∧∀ks,zu6 C h p ks→k∈ks)∨zc h k=none
 | [],ds,q,hq=>by
  cases ds with
  | cons=>cases hq
  | nil=>cases hq;exact⟨fun p hp=>by simp at hp,fun k ob hk=>by simp at hk⟩
 | p::ps,ds,q,hq=>by
  unfold zjs at hq;cases hwr:p.write with
  | false=>
   rw [hwr]at hq;obtain⟨g1,g2⟩:=znp L ps ds q hq;refine⟨fun p' hp hw=> ?_,fun k ob hk=> ?_⟩
   · rcases mco hp with rfl|hp
     · rw [hwr]at hw;cases hw
     · exact g1 p' hp hw
   · rcases g2 k ob hk with⟨p',a1,a2⟩|⟨p',a1,a2⟩|h
     · exact .inl ⟨p',mca _ a1,a2⟩
     · exact .inr (.inl ⟨p',mca _ a1,a2⟩)
     · exact .inr (.inr h)
  | true=>
   rw [hwr]at hq;cases ds with
   | nil=>cases hq
   | cons d ds=>
    simp only [oba]at hq;obtain⟨x,hx,hq⟩:=hq;split at hq
    · rename_i cs hg;split at hq
      · rename_i r hre;rw [oba]at hq;obtain⟨q2,h2,hq⟩:=hq;cases hq;obtain⟨c2,q1⟩:=r;obtain⟨g1,g2⟩:=znp L ps ds q2 h2;have hown:∀ks,zu6 C h p ks→(∀k∈ks,∃ob,(k,ob)∈q1)∧∀k ob,(k,ob)∈q1→k∈ks∨zc h k=none:=by
         rintro ks ⟨cs',e1,e2,e3⟩
         rw [hg]at e1;cases e1;exact zpe _ 0 _ c2 q1 ks hre (by rw [L.sz];exact e3)
        refine⟨fun p' hp hw=> ?_,fun k ob hk=> ?_⟩
        · rcases mco hp with rfl|hp
          · refine⟨⟨_,msa⟩,fun ks hks k hk=> ?_⟩;obtain⟨ob,hm⟩:=(hown ks hks).1 k hk;exact⟨ob,mca _ (mla _ hm)⟩
          · obtain⟨⟨ob,a1⟩,a2⟩:=g1 p' hp hw;refine⟨⟨ob,mca _ (mra _ a1)⟩,fun ks hks k hk=> ?_⟩;obtain⟨ob,hm⟩:=a2 ks hks k hk;exact⟨ob,mca _ (mra _ hm)⟩
        · rcases mco hk with hk|hk
          · cases hk;exact .inl ⟨p,msa,hwr,rfl⟩
          · rcases mpa hk with hk|hk
            · by_cases hn:zc h k=none
              · exact .inr (.inr hn)
              · exact .inr (.inl ⟨p,msa,hwr,fun ks hks=>((hown ks hks).2 k ob hk).resolve_right hn⟩)
            · rcases g2 k ob hk with⟨p',a1,a2⟩|⟨p',a1,a2⟩|h
              · exact .inl ⟨p',mca _ a1,a2⟩
              · exact .inr (.inl ⟨p',mca _ a1,a2⟩)
              · exact .inr (.inr h)
      · cases hq
    · cases hq
theorem zv0:∀(ps:List (Pl U)) (j:Nat) (ds:List (Dyn U)) (ho:za U),zhf C j ps ds=some ho→
 (∀(i:Nat) p,ps[i]?=some p→p.write=true→∃cs,(1000000+(j+i),.box cs)∈ho)∧(∀p∈ps,p.write=true→∃d∈ds,d.ty=p.ty)
 | [],j,ds,ho,h=>⟨fun i p hp=>by simp at hp,fun p hp=>by simp at hp⟩
 | p::ps,j,ds,ho,h=>by
  unfold zhf at h;cases hwr:p.write with
  | false=>
   rw [hwr]at h;obtain⟨g1,g2⟩:=zv0 ps (j+1) ds ho h;refine⟨fun i p' hp hw=> ?_,fun p' hp hw=> ?_⟩
   · cases i with
     | zero=>cases hp;rw [hwr]at hw;cases hw
     | succ i=>
      obtain⟨cs,hm⟩:=g1 i p' (by simpa using hp) hw;exact⟨cs,by rw [show j+(i+1)=j+1+i by omega];exact hm⟩
   · rcases mco hp with rfl|hp
     · rw [hwr]at hw;cases hw
     · exact g2 p' hp hw
  | true=>
   rw [hwr]at h;cases ds with
   | nil=>cases h
   | cons d ds=>
    simp only [oba]at h;obtain⟨x,hx,oz,hoz,r,hr,h⟩:=h;cases h;obtain⟨g1,g2⟩:=zv0 ps (j+1) ds r hr;refine⟨fun i p' hp hw=> ?_,fun p' hp hw=> ?_⟩
    · cases i with
      | zero=>exact⟨_,msa⟩
      | succ i=>
       obtain⟨cs,hm⟩:=g1 i p' (by simpa using hp) hw;exact⟨cs,by rw [show j+(i+1)=j+1+i by omega];exact mca _ (mra _ hm)⟩
    · rcases mco hp with rfl|hp
      · refine⟨d,msa,?_⟩;unfold Dyn.as at hx;split at hx
        · rename_i e _;exact e
        · cases hx
      · obtain⟨d',a1,a2⟩:=g2 p' hp hw;exact⟨d',mca _ a1,a2⟩
theorem z3p:∀(ts:List U.Ty) (y:PT U ts),(zen U ts y).length=ts.length∧∀d∈zen U ts y,d.ty∈ts
 | [],_=>⟨rfl,fun d hd=>by simp [zen]at hd⟩
 | [t],x=>⟨rfl,fun d hd=>by simp [zen]at hd;simp [hd]⟩
 | t::u::ts,(x,y)=>by
  obtain⟨h1,h2⟩:=z3p (u::ts) y;refine⟨by simp only [zen,List.length_cons,h1],fun d hd=> ?_⟩;simp only [zen,List.mem_cons]at hd;rcases hd with rfl|hd
  · simp
  · exact mca _ (h2 d hd)
end
end Go.Amx
