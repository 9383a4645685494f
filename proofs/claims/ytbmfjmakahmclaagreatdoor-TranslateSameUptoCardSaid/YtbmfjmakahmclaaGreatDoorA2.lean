/- A machine that evaluates the program's form by typed values, and the proof that it is sound: part 2. -/
import Derived.Test.YtbmfjmakahmclaaGreatDoorA1
namespace Go.Amx
set_option linter.unusedVariables false
set_option linter.unusedSimpArgs false
section
variable {U:Uni} {C:Ctx U} {μ:Mp} {H:Fz} {E:List (AV U)} {h h':za U} {a:Act} {w:World} {o:Oper} {v:AV U}
theorem F2.imp {α β:Type} {R R':α→β→Prop} {l:List α} {m:List β} (h:F2 R l m) (hr:∀a b,R a b→R' a b):F2 R' l m:=by
 induction h with
 | nil=>exact .nil
 | cons h1 _ ih=>exact .cons (hr _ _ h1) ih
theorem zvo {μ1:Mp} {H1:Fz} {ml:List (Nat × Loc)} {hs:za U} (hr:zjq C.En μ1 H1 w ml hs) {k:Nat} {l:Loc} (hm:(k,l)∈ml):∃ob,(k,ob)∈hs∧zcl C.En μ1 H1 w l ob:=by
 obtain⟨⟨k',ob⟩,h1,h2,h3⟩:=F2.mem_left hr hm
 cases h2
 exact⟨ob,h1,h3⟩
theorem z3u {μ1:Mp} {H1:Fz} {ml:List (Nat × Loc)} {hs:za U} (hr:zjq C.En μ1 H1 w ml hs) {k:Nat} {ob:Ob U} (hm:(k,ob)∈hs):∃l,(k,l)∈ml∧zcl C.En μ1 H1 w l ob:=by
 obtain⟨⟨k',l⟩,h1,h2,h3⟩:=F2.mem_right hr hm
 cases h2
 exact⟨l,h1,h3⟩
theorem F2.inj {R:Nat × Loc→Nat × Loc→Prop} {l m:List (Nat × Loc)} (h:F2 R l m) (hn:(m.map (·.1)).Nodup):∀a1 a2,a1∈l→a2∈l→∃b1 b2,b1∈m∧b2∈m∧R a1 b1∧R a2 b2∧(b1.1=b2.1→a1=a2):=by
 induction h with
 | nil=>intro a1 a2 h;simp at h
 | cons h1 h2 ih=>
  rename_i a b l m;simp only [List.map_cons,List.nodup_cons]at hn;intro a1 a2 m1 m2;rcases mco m1 with e1|m1
  · rcases mco m2 with e2|m2
    · subst e1 e2;exact⟨b,b,msa,msa,h1,h1,fun _=>rfl⟩
    · obtain⟨b2,hb2,hr2⟩:=F2.mem_left h2 m2;subst e1;exact⟨b,b2,msa,mca _ hb2,h1,hr2,fun e=>absurd (List.mem_map.2 ⟨b2,hb2,e.symm⟩) hn.1⟩
  · rcases mco m2 with e2|m2
    · obtain⟨b1,hb1,hr1⟩:=F2.mem_left h2 m1;subst e2;exact⟨b1,b,mca _ hb1,msa,hr1,h1,fun e=>absurd (List.mem_map.2 ⟨b1,hb1,e⟩) hn.1⟩
    · obtain⟨b1,b2,t1,t2,t3,t4,t5⟩:=ih hn.2 a1 a2 m1 m2;exact⟨b1,b2,mca _ t1,mca _ t2,t3,t4,t5⟩
structure Join (C:Ctx U) (μ:Mp) (H:Fz) (h:za U) (w:World) (ks bs:List Nat) (F:Nat→Prop) (ml:List (Nat × Loc)) (H':Fz) (w':World):Prop where
 mem:Mem μ H w
 memc:Mem (zc5 ml) H' w'
 nodup:(ml.map (·.1)).Nodup
 le:(zcp μ H w bs).le H'
 ksF:∀k∈ks,F k
 ksArr:∀k∈ks,∀l,μ k=some l→l.box=false
 wd:Wd (zpl μ F) w w'
 frz:∀b o,H' b o≠none→zcp μ H w bs b o≠none∨w.heap.size≤b∨∃k l,k∈ks∧μ k=some l∧l.holds b o
 loc:∀k l b o,(k,l)∈ml→l.box=false→l.holds b o→w.heap.size≤b∨∃s lc,s∈ks∧μ s=some lc∧lc.holds b o
 bsF:∀k∈bs,¬F k
def zmn (μ:Mp) (mq:List (Nat × Loc)):Mp:=fun k=>match zc5 mq k with|some l=>some l|none=>μ k
open Classical in
noncomputable def zm6 (μ:Mp) (H:Fz) (w:World) (bs:List Nat) (H1:Fz):Fz:=fun b o=>if H b o=none∧zcp μ H w bs b o≠none then none else H1 b o
theorem z6o {ml:List (Nat × Loc)} {k:Nat} (h:∀l,(k,l)∉ml):zc5 ml k=none:=by
 cases hq:zc5 ml k with
 | none=>rfl
 | some l=>exact absurd (zhm hq) (h l)
theorem join (L:ELaws C.En) {ks bs:List Nat} {F:Nat→Prop} {ml:List (Nat × Loc)} {H':Fz} {w':World} (J:Join C μ H h w ks bs F ml H' w') {mq0 mm dq mq:List (Nat × Loc)} (hqe:mq=mq0++dq) (hor:F2 (z3k μ) mq0 mm) (hdq:∀x∈dq,x.2.at_=none∧x.2.box=false∧(μ x.1=none∨∃l,μ x.1=some l∧l.box=false∧l.ver<x.2.ver)) (hmm:(mm.map (·.1)).Nodup) (hsub:∀q∈mm,q∈ml)
 {fk:List Nat} (hfk:∀q∈mm,q.1∉fk) (hfkb:∀k∈fk,∀l,(k,l)∈ml→l.box=false) (hqn:(mq.map (·.1)).Nodup) (hks:∀k∈ks,∃l,(k,l)∈mq)
 (hbox:∀k l,(k,l)∈mq→l.box=true→k∉ks) {q:za U}
 (hrel:∀μ'' H'',zgt μ'' mq→μ.le μ''→H.le H''→μ''=zmn μ mq→H''=zm6 μ H w bs (zcp (zc5 ml) H' w' fk)→zjq C.En μ'' H'' w' mq q) (hqF:∀k ob,(k,ob)∈q→F k∨zc h k=none) (hFq:∀k,F k→∃ob,(k,ob)∈q):
 zgt (zmn μ mq) mq∧After C F μ H h w (zn5 q h) (zmn μ mq) (zm6 μ H w bs (zcp (zc5 ml) H' w' fk)) w':=by
 have hwq:=zha hqn
 have hsplit:∀x,x∈mq→x∈mq0∨x∈dq:=fun x hx=>by rw [hqe]at hx;exact mpa hx
 have hdno:∀x,x∈dq→∀b o,¬x.2.holds b o:=fun x hx b o ⟨o0,h1,_⟩=>by rw [(hdq x hx).1]at h1;cases h1
 have hW:zgt (zmn μ mq) mq:=fun x hx=>by simp only [zmn,hwq x hx]
 have hle0:H.le (zcp μ H w bs):=zgl J.mem bs
 have hle1:H'.le (zcp (zc5 ml) H' w' fk):=zgl J.memc fk
 have hleH:H.le (zm6 μ H w bs (zcp (zc5 ml) H' w' fk)):=fun b o v hv=>by
  unfold zm6;rw [if_neg (fun hh=>by rw [hv]at hh;cases hh.1)];exact hle1 _ _ _ (J.le _ _ _ (hle0 _ _ _ hv))
 have hleM:μ.le (zmn μ mq):=fun k l hl=>by
  unfold zmn;cases hq:zc5 mq k with
  | none=>exact⟨l,hl,.inl rfl⟩
  | some l'=>
   refine⟨l',rfl,?_⟩;rcases hsplit _ (zhm hq)with hm0|hd0
   rotate_left
   · obtain⟨_,d2,d3|⟨l3,d3,d4,d5⟩⟩:=hdq _ hd0
     · simp only at d3;rw [hl]at d3;cases d3
     · simp only at d2 d3 d5;rw [hl]at d3;cases d3;exact .inr ⟨d4,d2,d5⟩
   obtain⟨⟨k2,l2⟩,hm2,ho⟩:=F2.mem_left hor hm0;rcases ho with⟨_,o2,_⟩|⟨o1,v,o2,o3⟩
   · simp only at o2;rw [hl]at o2;cases o2;exact .inl rfl
   · simp only at o1 o2 o3;rcases o3 with o3|⟨l3,o3,o4,o5⟩
     · rw [hl]at o3;cases o3
     · rw [hl]at o3;cases o3;subst o2;exact .inr ⟨o4,o1,o5⟩
 have hR:=hrel _ _ hW hleM hleH rfl rfl
 have hown:∀k l,(k,l)∈mq→l.box=false→∀b o,l.holds b o→∃k' l',(k',l')∈mm∧l'.holds b o:=by
  intro k l hm hb b o hh;rcases hsplit _ hm with hm|hd0
  rotate_left
  · exact(hdno _ hd0 b o hh).elim
  obtain⟨⟨k2,l2⟩,hm2,ho⟩:=F2.mem_left hor hm;rcases ho with⟨_,_,o3,_⟩|⟨o1,v,o2,o3⟩
  · simp only at o3;rw [hb]at o3;cases o3
  · simp only at o2;subst o2;exact⟨k2,l2,hm2,hh⟩
 have hplace:∀k l,(k,l)∈mq→l.box=false→∀b o,l.holds b o→w.heap.size≤b∨∃s lc,s∈ks∧μ s=some lc∧lc.holds b o:=by
  intro k l hm hb b o hh;rcases hsplit _ hm with hm|hd0
  rotate_left
  · exact(hdno _ hd0 b o hh).elim
  obtain⟨⟨k2,l2⟩,hm2,ho⟩:=F2.mem_left hor hm;rcases ho with⟨_,_,o3,_⟩|⟨o1,v,o2,o3⟩
  · simp only at o3;rw [hb]at o3;cases o3
  · simp only at o1 o2;subst o2;exact J.loc k2 l2 b o (hsub _ hm2) o1 hh
 have hcase:∀k l,zmn μ mq k=some l→((k,l)∈mq∧l.box=false)∨(μ k=some l∧k∉ks):=by
  intro k l hj;unfold zmn at hj;cases hq:zc5 mq k with
  | none=>
   rw [hq]at hj;refine .inr ⟨hj,fun hk=> ?_⟩;obtain⟨l2,hl2⟩:=hks k hk;rw [hwq _ hl2]at hq;cases hq
  | some l'=>
   rw [hq]at hj;cases hj;have hm:=zhm hq;cases hb:l.box with
   | false=>exact .inl ⟨hm,rfl⟩
   | true=>
    rcases hsplit _ hm with hm0|hd0
    rotate_left
    · have:=(hdq _ hd0).2.1;simp only at this;rw [hb]at this;cases this
    obtain⟨⟨k2,l2⟩,hm2,ho⟩:=F2.mem_left hor hm0;rcases ho with⟨_,o2,_⟩|⟨o1,v,o2,_⟩
    · exact .inr ⟨o2,hbox k l hm hb⟩
    · simp only at o1 o2;rw [o2]at hb;simp only at hb;rw [o1]at hb;cases hb
 have hold:∀k l,μ k=some l→k∉ks→∀b o,l.holds b o→∀s lc,s∈ks→μ s=some lc→lc.holds b o→False:=by
  intro k l hk hn b o hh s lc hs hl hlc;have:=J.mem.apart _ _ _ _ _ _ hk hl hh hlc;subst this;exact hn hs
 refine⟨hW,{
  leH:=hleH
  leM:=hleM
  mem:={frz:= ?_,apart:= ?_,free:= ?_,inside:= ?_}
  wd:=J.wd
  same:= ?_
  objs:= ?_
  frzNew:= ?_
  locNew:= ?_}⟩
 · intro b o v hv;unfold zm6 at hv;split at hv
   · cases hv
   · exact zsl J.memc fk _ _ _ hv
 · intro k k' l l' b o h1 h2 g1 g2;rcases hcase k l h1 with⟨m1,b1⟩|⟨m1,n1⟩
   · rcases hcase k' l' h2 with⟨m2,b2⟩|⟨m2,n2⟩
     · rcases hsplit _ m1 with m1|hd0
       rotate_left
       · exact(hdno _ hd0 b o g1).elim
       rcases hsplit _ m2 with m2|hd0
       rotate_left
       · exact(hdno _ hd0 b o g2).elim
       obtain⟨x1,x2,t1,t2,t3,t4,t5⟩:=F2.inj hor hmm _ _ m1 m2;have e1:x1.2.holds b o:=by
        rcases t3 with⟨_,_,o3,_⟩|⟨o1,v,o2,_⟩
        · simp only at o3;rw [b1]at o3;cases o3
        · simp only at o2;subst o2;exact g1
       have e2:x2.2.holds b o:=by
        rcases t4 with⟨_,_,o3,_⟩|⟨o1,v,o2,_⟩
        · simp only at o3;rw [b2]at o3;cases o3
        · simp only at o2;subst o2;exact g2
       have hwm:=zha J.nodup;have:=J.memc.apart _ _ _ _ _ _ (hwm _ (hsub _ t1)) (hwm _ (hsub _ t2)) e1 e2;have:=t5 this;cases this;rfl
     · rcases hplace k l m1 b1 b o g1 with hh|⟨s,lc,hs,hl,hlc⟩
       · have:=J.mem.inside _ _ _ _ m2 g2;omega
       · exact(hold k' l' m2 n2 b o g2 s lc hs hl hlc).elim
   · rcases hcase k' l' h2 with⟨m2,b2⟩|⟨m2,n2⟩
     · rcases hplace k' l' m2 b2 b o g2 with hh|⟨s,lc,hs,hl,hlc⟩
       · have:=J.mem.inside _ _ _ _ m1 g1;omega
       · exact(hold k l m1 n1 b o g1 s lc hs hl hlc).elim
     · exact J.mem.apart _ _ _ _ _ _ m1 m2 g1 g2
 · intro k l b o h1 g1;unfold zm6;split
   · rfl
   · rename_i hnl;rcases hcase k l h1 with⟨m1,b1⟩|⟨m1,n1⟩
     · obtain⟨k',l',t1,t2⟩:=hown k l m1 b1 b o g1;exact zq9 J.memc (fun k'' hk'' e=>hfk _ t1 (by have e':k''=k':=e;subst e';exact hk'')) (zha J.nodup _ (hsub _ t1)) t2
     · have hH:=J.mem.free _ _ _ _ m1 g1;have hln:zcp μ H w bs b o=none:=by
        cases hq:zcp μ H w bs b o with
        | none=>rfl
        | some x=>exact absurd ⟨hH,by rw [hq];simp⟩ hnl
       have hH':H' b o=none:=by
        cases hq:H' b o with
        | none=>rfl
        | some x=>
         rcases J.frz b o (by rw [hq];simp)with hh|hh|⟨s,lc,hs,hl,hlc⟩
         · exact absurd hln hh
         · have:=J.mem.inside _ _ _ _ m1 g1;omega
         · exact(hold k l m1 n1 b o g1 s lc hs hl hlc).elim
       unfold zcp;split
       · rename_i hx;obtain⟨k',l',t1,t2,t3⟩:=hx;have t4:=zhm t2;rcases J.loc k' l' b o t4 (hfkb k' t1 l' t4) t3 with hh|⟨s,lc,hs,hl,hlc⟩
         · have:=J.mem.inside _ _ _ _ m1 g1;omega
         · exact(hold k l m1 n1 b o g1 s lc hs hl hlc).elim
       · exact hH'
 · intro k l b o h1 g1;rcases hcase k l h1 with⟨m1,b1⟩|⟨m1,n1⟩
   · obtain⟨k',l',t1,t2⟩:=hown k l m1 b1 b o g1;exact J.memc.inside _ _ _ _ (zha J.nodup _ (hsub _ t1)) t2
   · have:=J.mem.inside _ _ _ _ m1 g1;have:=J.wd.size;omega
 · intro k hn1 hn2;have hq:∀ob,(k,ob)∉q:=by
    intro ob hm;rcases hqF k ob hm with hh|hh
    · exact hn1 hh
    · refine hn2 ⟨hh,?_⟩;rw [zjx];cases hg:zc q k with
      | none=>exact absurd hg (z0p hm)
      | some x=>simp
   have hmq:zc5 mq k=none:=z6o fun l hl=>by
    obtain⟨ob,h1,_⟩:=zvo hR hl;exact hq ob h1
   refine⟨by simp only [zmn,hmq],?_⟩;rw [zjx];cases hg:zc q k with
   | none=>rfl
   | some x=>exact absurd (zsm hg) (hq x)
 · intro k l' hc hl;have hin:∃ob,(k,ob)∈q:=by
    rcases hc with hc|⟨h1,h2⟩
    · exact hFq k hc
    · rw [zjx]at h2;cases hg:zc q k with
      | none=>rw [hg]at h2;exact absurd h1 h2
      | some x=>exact⟨x,zsm hg⟩
   obtain⟨ob,hob⟩:=hin;obtain⟨l2,hm2,_⟩:=z3u hR hob;have hg2:=hwq _ hm2;simp only at hg2;simp only [zmn,hg2]at hl;cases hl;obtain⟨ob',t1,t2⟩:=z0e hR k _ hg2;exact⟨ob',by rw [zjx,t1],t2⟩
 · intro b o hb;unfold zm6 at hb;split at hb
   · exact absurd rfl hb
   · rename_i hnl;have key:H' b o≠none→H b o≠none∨w.heap.size≤b∨zpl μ F b o:=fun hh=>by
      rcases J.frz b o hh with h1|h1|⟨s,lc,hs,hl,hlc⟩
      · refine .inl fun h2=>hnl ⟨h2,h1⟩
      · exact .inr (.inl h1)
      · exact .inr (.inr ⟨s,lc,J.ksF s hs,hl,hlc⟩)
     unfold zcp at hb;split at hb
     · rename_i hx;obtain⟨k',l',t1,t2,t3⟩:=hx;have t4:=zhm t2;rcases J.loc k' l' b o t4 (hfkb k' t1 l' t4) t3 with hh|⟨s,lc,hs,hl,hlc⟩
       · exact .inr (.inl hh)
       · exact .inr (.inr ⟨s,lc,J.ksF s hs,hl,hlc⟩)
     · exact key hb
 · intro k l' b o h1 g1;rcases hcase k l' h1 with⟨m1,b1⟩|⟨m1,n1⟩
   · rcases hplace k l' m1 b1 b o g1 with hh|⟨s,lc,hs,hl,hlc⟩
     · exact .inr (.inl hh)
     · exact .inr (.inr ⟨s,lc,J.ksF s hs,hl,hlc⟩)
   · exact .inl ⟨l',m1,g1⟩
end
section
variable {U:Uni} {C:Ctx U} {μ:Mp} {H:Fz} {E:List (AV U)} {h h':za U} {a:Act} {w:World} {o:Oper} {v:AV U}
structure CallFacts (C:Ctx U) (ct:Ct U) (fp:List Nat) (c:Coll U):Prop where
 nd:(c.ps.map (·.k)++c.ks).Nodup
 bs:∀k∈c.bs,k∉c.ps.map (·.k)++c.ks
 fp:∀k∈c.ps.map (·.k)++(c.ks++c.bs),k∈fp
 ro:∀p∈c.ps,p.write=true→C.ro.contains p.k=false
 rd:∀p∈c.ps,p.write=false→p.owns=[]
 ksro:∀k∈c.ks,C.ro.contains k=false
 outs:ct.outs.length=(zyv c.ps).length
 flat:(∀t∈ct.results++ct.outs,C.En.flat t=true)∨c.bs=[]
 args:∃r,zmp C ct.params c.ds=some r
theorem zsr {ct:Ct U} {fp:List Nat} {c:Coll U} (hk:zu0 C ct fp c=true):CallFacts C ct fp c:=by
 unfold zu0 at hk
 simp only [baa,Bool.or_eq_true]at hk
 obtain⟨h1,h2,h3,h4,h5,h6,h7,h8⟩:=hk
 refine⟨zgn h1,fun k hk=> ?_,fun k hk=> ?_,fun p hp hw=> ?_,fun p hp hw=> ?_,fun k hk=> ?_,Nat.eq_of_beq_eq_true h6,?_,Option.isSome_iff_exists.1 h8⟩
 · simpa using lat h2 k hk
 · simpa using lat h3 k hk
 · have:=lat h4 p hp;rw [hw]at this;simpa using this
 · have:=lat h4 p hp;rw [hw]at this;simpa using this
 · simpa using lat h5 k hk
 · rcases h7 with h7|h7
   · exact .inl fun t ht=>lat h7 t ht
   · exact .inr (by simpa using h7)
theorem ztk {ms:List (Md U)} {ds:List (Dyn U)} {r:List (AV U) × za U} (h:zmp C ms ds=some r):zci C 0 ms ds=some r∧(r.2.map (·.1)).Nodup:=by
 unfold zmp at h
 rw [oba]at h
 obtain⟨r',h1,h2⟩:=h
 cases hd:zh0 (r'.2.map (·.1))with
 | false=>rw [hd]at h2;cases h2
 | true=>
  rw [hd]at h2;cases h2;exact⟨h1,zgn hd⟩
theorem zsv:∀{ps:List (Pl U)},zyv ps=[]→∀p∈ps,p.write=false
 | [],_,p,hp=>by simp at hp
 | p0::ps,h,p,hp=>by
  unfold zyv at h;cases hw:p0.write with
  | true=>rw [hw]at h;simp at h
  | false=>
   rw [hw]at h;rcases mco hp with rfl|hp
   · exact hw
   · exact zsv h p hp
theorem z9t (L:ELaws C.En) {μ' μ'':Mp} {H' H'':Fz} {w':World} {t:U.Ty} (hc:C.En.flat t=true∨H'.le H''):Conv C μ' H' μ'' H'' w' t:=by
 intro x
 rcases hc with hf|hle
 · refine⟨fun c u hc hv=> ?_,fun t' xs hm=> ?_⟩
   · obtain⟨v,rfl⟩:=L.flat t hf x c hc;cases hv;exact .sc _
   · obtain⟨v,e⟩:=L.flat t hf x _ hm;cases e
 · refine⟨fun c u hc hv=>(hv.mono hle (Mp.le_refl _)).shift L μ'' (L.fz _ _ _ hc).fza,fun t' xs hm l ho v=> ?_⟩;obtain⟨h1,h2,h3,h4,h5⟩:=ho;refine⟨h1,rfl,h3,h4,?_⟩;cases ha:l.at_ with
   | none=>simp only [ha]at h5;exact h5
   | some q=>
    obtain⟨b,o'⟩:=q;simp only [ha]at h5;obtain⟨h6,h7,h8⟩:=h5;refine⟨h6,h7,fun i y hi j c hj=> ?_⟩;obtain⟨cv,r1,r2⟩:=h8 i y hi j c hj;exact⟨cv,r1,(r2.mono hle (Mp.le_refl _)).shift L μ'' (L.fz _ _ _ (lma hj)).fza⟩
theorem After.of_imp {F F':Nat→Prop} {h':za U} {μ':Mp} {H':Fz} {w':World} (h1:After C F μ H h w h' μ' H' w') (hf:∀k,F k→F' k) (L:ELaws C.En)
 (hm:Mem μ H w) (hkn:∀k,F' k→zmj C μ H h w k):After C F' μ H h w h' μ' H' w':=by
 refine h1.weaken hf fun k l' hk hn hl=> ?_
 by_cases hnew:zc h k=none∧zc h' k≠none
 · exact h1.objs k l' (.inr hnew) hl
 · obtain⟨e1,e2⟩:=h1.same k hn hnew;rw [e1]at hl;obtain⟨ob,g1,g2⟩:=hkn k hk l' hl;refine⟨ob,by rw [e2];exact g1,g2.keep L h1.wd h1.leH h1.leM fun b o hh ⟨k2,l2,f1,f2,f3⟩=> ?_⟩;have:=hm.apart _ _ _ _ _ _ hl f2 hh f3;subst this;exact hn f1
theorem F2.both {α β:Type} {R R':α→β→Prop} {l:List α} {m:List β} (h:F2 R l m) (h':F2 R' l m):F2 (fun a b=>R a b∧R' a b) l m:=by
 induction h with
 | nil=>exact .nil
 | cons h1 _ ih=>cases h' with|cons g1 g2=>exact .cons ⟨h1,g1⟩ (ih g2)
theorem zlf {owns:List Nat}:∀(cs:List (AV U)) (j0:Nat) (ks:List Nat),ze4 h owns j0 cs=some ks→
 (∀k∈ks,∃ver t xs,zc h k=some (.arr ver t xs))∧∀(j k ver:Nat) ww,cs[j]?=some (.own k ver ww)→owns.contains (j0+j)=true→∃t xs,zc h k=some (.arr ver t xs)
 | [],j0,ks,hk=>by cases hk;exact⟨fun k hk=>by simp at hk,fun j k ver ww hj=>by simp at hj⟩
 | c::cs,j0,ks,hk=>by
  rcases zkm hk with⟨e1,h1⟩|⟨e1,rfl,h1⟩|⟨e1,k0,ver0,ww0,t,xs,ks',rfl,hg,h1,rfl⟩
  · obtain⟨g1,g2⟩:=zlf cs (j0+1) ks h1;refine⟨g1,fun j k ver ww hj hc=> ?_⟩;cases j with
    | zero=>rw [Nat.add_zero,e1]at hc;cases hc
    | succ j=>exact g2 j k ver ww (by simpa using hj) (by rw [show j0+1+j=j0+(j+1)by omega];exact hc)
  · obtain⟨g1,g2⟩:=zlf cs (j0+1) ks h1;refine⟨g1,fun j k ver ww hj hc=> ?_⟩;cases j with
    | zero=>cases hj
    | succ j=>exact g2 j k ver ww (by simpa using hj) (by rw [show j0+1+j=j0+(j+1)by omega];exact hc)
  · obtain⟨g1,g2⟩:=zlf cs (j0+1) ks' h1;refine⟨fun k hk=> ?_,fun j k ver ww hj hc=> ?_⟩
    · rcases mco hk with rfl|hk
      · exact⟨_,_,_,hg⟩
      · exact g1 k hk
    · cases j with
      | zero=>cases hj;exact⟨_,_,hg⟩
      | succ j=>exact g2 j k ver ww (by simpa using hj) (by rw [show j0+1+j=j0+(j+1)by omega];exact hc)
theorem zpm {base:Nat} {owns:List Nat}:∀(cs:List (AV U)) (j0:Nat) (c1:List (AV U)) (hs:za U),zih base owns j0 cs=some (c1,hs)→∀p∈hs,∃t xs,p.2= .arr 0 t xs
 | [],j0,c1,hs,h=>by cases h;intro p hp;simp at hp
 | c::cs,j0,c1,hs,h=>by
  rcases zju h with⟨_,r,o1,rfl⟩|⟨_,t,xs,r,hs',rfl,o1,rfl,rfl⟩
  · exact zpm cs (j0+1) r hs o1
  · intro p hp;rcases mco hp with rfl|hp
    · exact⟨t,xs,rfl⟩
    · exact zpm cs (j0+1) r hs' o1 p hp
theorem z6a {base:Nat} {fresh:List Nat} {rd:List (Dyn U)} {rv:AV U} {hf:za U} (h1:zb6 C base fresh rd=some (rv,hf)):∀p∈hf,∃t xs,p.2= .arr 0 t xs:=by
 unfold zb6 at h1
 split at h1
 · split at h1
   · cases h1;intro p hp;simp at hp
   · rw [oba]at h1;obtain⟨⟨c1,hs⟩,o1,e1⟩:=h1;cases e1;exact zpm _ _ _ _ o1
 · split at h1
   · cases h1;intro p hp;simp at hp
   · cases h1
theorem zx5 {ml:List (Nat × Loc)} (hn:(ml.map (·.1)).Nodup) {k:Nat} {l l':Loc} (h1:(k,l)∈ml) (h2:(k,l')∈ml):l=l':=by
 have e1:=zha hn _ h1
 have e2:=zha hn _ h2
 simp only at e1 e2
 rw [e1]at e2
 exact Option.some.inj e2
theorem zaeo (L:ELaws C.En) {μ' μ'':Mp} {H' H'':Fz} {w':World} {base:Nat} {rd:List (Dyn U)} {r1:AV U} {qr:za U} {u:Value} (h1:zb6 C base [] rd=some (r1,qr)) (hc:∀d∈rd,Conv C μ' H' μ'' H'' w' d.ty) (hV:V C.En μ' H' r1 u):V C.En μ'' H'' r1 u:=by
 have e1:qr=[]:=by
  unfold zb6 at h1;split at h1<;>simp at h1<;>exact h1.2
 subst e1
 have h2:zb6 C 9000000 [] rd=some (r1,[]):=by
  rw [←h1];unfold zb6;split<;>rfl
 obtain⟨mlr,_,n2,n3⟩:=z1t (h:=([]:za U)) (μ:=zi6) (mlf:=[]) L h2 h1 F2.nil (fun x hx=>by simp at hx) hV (fun x hx=>by simp at hx) (fun x hx=>by simp at hx)
 have e3:mlr=[]:=by
  cases mlr with
  | nil=>rfl
  | cons=>simp at n2
 subst e3
 exact(n3 μ'' H'' (fun x hx=>by simp at hx) hc).2
theorem zaiy (L:ELaws C.En) (O:OOK C) (p:Pre C μ H E h a w o) {c:Call} {fo:Operand} {f:FuncId} {caps:List (AV U)} (ho:o.op= .call c) (hc:c.callee= .value fo) (hf:opv C E fo= .fn f caps) {ct:Ct U} (hct:C.O f=some ct)
 {cc:Coll U} (hcol:zaq C h ct.params (c.args.toList.map (opv C E)++caps)=some cc) (hok:zu0 C ct (zby C E h o) cc=true) {y:PT U (ct.results++ct.outs)} (hy:ct.fn cc.ds=some y)
 {q:za U} (hq:zjs C h cc.ps ((zen U (ct.results++ct.outs) y).drop ct.results.length)=some q) {lit:Bool} {base:Nat} {r1:AV U} {qr:za U}
 (hr:zb6 C base (cond lit [] ct.fresh) ((zen U (ct.results++ct.outs) y).take ct.results.length)=some (r1,qr)) (hd1:zh0 (((q++qr)++cc.mv).map (·.1))=true) (hd2:(qr.all fun p=>(zc h p.1).isNone)=true)
 (hfr:∀k,zc h k=none→zc (zn5 ((q++qr)++cc.mv) h) k≠none→μ k=none):zb3 C μ H E h a w o r1 (zn5 ((q++qr)++cc.mv) h):=fun next Q hn=>by
 obtain⟨⟨fn,hfn,hbody,hname⟩,hmeets⟩:=O f ct hct
 have K:=zsr hok
 obtain⟨⟨E0,h0⟩,hargs⟩:=K.args
 obtain⟨hargs1,hargs2⟩:=ztk hargs
 have hfV:=hf▸p.ops fo (by simp [ho,Op.operands,Call.operands,hc])
 obtain⟨vs,hfe,hcapsF⟩:=zr8 hfV
 have hopsF:F2 (V C.En μ H) (c.args.toList.map (opv C E)) (c.args.map a.eval).toList:=by
  rw [Array.toList_map];refine F2.of_get (by simp) fun i x u h1 h2=> ?_;rw [gem,oma]at h1 h2;obtain⟨x1,e1,rfl⟩:=h1;obtain⟨x2,e2,rfl⟩:=h2;rw [e1]at e2;cases e2;refine p.ops x1 ?_;rw [ho];have:=lma e1;simp [Op.operands,Call.operands,hc,Array.mem_toList_iff.1 this]
 have hkn:∀k,k∈cc.ps.map (·.k)++(cc.ks++cc.bs)→zmj C μ H h w k:=fun k hk=>p.foot k (K.fp k hk)
 obtain⟨ml0,ss,a1,a2,a3,a4,a5,a7,a6⟩:=zmy L p.mem cc.bs ct.params _ _ 0 cc E0 h0 (hopsF.append hcapsF) hcol (fun k hk=>hk) hkn hargs1
 simp only [Nat.zero_add]at a3 a5
 have hn0:(ml0.map (·.1)).Nodup:=by rw [a7];exact hargs2
 have hW0:=zha hn0
 obtain⟨b1,b2⟩:=a6 (zc5 ml0) hW0
 have hss:(ss.filterMap id).Nodup:=a2.nodup_iff.2 K.nd
 have hmem0:Mem (zc5 ml0) (zcp μ H w cc.bs) w:=zsj p.mem (zsl p.mem cc.bs) a1 hss fun k l b o' hk hl hh=>zq9 p.mem (fun k' hk' e=>K.bs k' hk' (e▸a2.mem_iff.1 hk)) hl hh
 have hsim:Sim C.En (zc5 ml0) (zcp μ H w cc.bs) h0 w:={toMem:=hmem0,obj:=z0e b1}
 have hcalls:=hmeets cc.ds y hy E0 h0 hargs (zc5 ml0) (zcp μ H w cc.bs) w _ b2 hsim (p.glob.mono (zgl p.mem cc.bs))
 have hrun:(execOp a.eval o).run C.P w= .ok (.enter f (c.args.map a.eval++vs)) w:=by
  rw [z4m ho hc hfe];have hb:fn.body≠none:=by intro e;rw [e]at hbody;cases hbody
  have hne:fn.name≠ "runtime.NumGoroutine" :=by simpa using hname
  simp [callFunc,hfn,hne,hb]
 unfold Oper.wp
 rw [hrun,Oper.upon_enter]
 have hargsA:((c.args.map a.eval).toList++vs.toList).toArray=c.args.map a.eval++vs:=by simp
 rw [hargsA]at hcalls
 refine hcalls.mono fun e w' hR=> ?_
 cases e with
 | panicked=>exact hR.elim
 | outgrown=>exact hR.elim
 | returned u=>
  obtain⟨rv,hfh,hoh,ml,H',c1,c2,c3,c4,c5,c6,c7,c8,c9,c10,c11⟩:=hR;obtain⟨P1,P2,P3⟩:=zk9 _ _ _ hcol;obtain⟨P4,P5⟩:=zjp _ _ _ hcol;rw [P3]at c2;obtain⟨W1,W2⟩:=znp L _ _ _ hq;obtain⟨Q1,Q2⟩:=zv0 _ _ _ _ c2;simp only [Nat.zero_add]at Q1;have hWc:=zha c3
  let F:Nat→Prop:=fun k=>k∈cc.ks∨∃p∈cc.ps,p.write=true∧p.k=k
  have hksW:∀k∈cc.ks,(∃p∈cc.ps,p.write=true∧∃ks,zu6 C h p ks∧k∈ks)∨∃ob,(k,ob)∈cc.mv:=by
   intro k hk;rcases P2 k hk with⟨p',h1,ks,h2,h3⟩|hm
   rotate_left
   · exact .inr hm
   refine .inl ⟨p',h1,?_,ks,h2,h3⟩;cases hw:p'.write with
   | true=>rfl
   | false=>
    obtain⟨cs,_,_,h4⟩:=h2;rw [K.rd p' h1 hw]at h4;rw [zty _ _ h4]at h3;simp at h3
  have hksArr:∀k∈cc.ks,∀l,μ k=some l→l.box=false:=by
   intro k hk l hl;obtain⟨ver,t,xs,hg⟩:∃ver t xs,zc h k=some (.arr ver t xs):=by
    rcases P2 k hk with⟨p',h1,ks,⟨cs,_,_,h4⟩,h3⟩|⟨ob,hm⟩
    · exact(zlf _ _ _ h4).1 k h3
    · obtain⟨_,ver,t,xs,hg,_⟩:=P4 _ hm;exact⟨ver,t,xs,hg⟩
   obtain⟨ob,g1,g2⟩:=hkn k (by simp [hk]) l hl;rw [hg]at g1;cases g1;exact g2.1
  have hpsBox:∀p'∈cc.ps,∀l,μ p'.k=some l→l.box=true:=by
   intro p' hp l hl;obtain⟨i,hi⟩:=List.getElem?_of_mem hp;obtain⟨lp,b,o',e1,e2,_⟩:=a3 i p' hi;rw [hl]at e1;cases e1;exact e2
  have hfrom:=F2.both a1 a4;have hopenS:∀k l b o',zc5 ml0 k=some l→(zcn 0 ct.params).contains k=false→l.holds b o'→∃s lc,F s∧μ s=some lc∧lc.box=l.box∧lc.holds b o':=by
   intro k l b o' h1 h2 h3;obtain⟨s,_,g1,g2⟩:=F2.mem_left hfrom (zhm h1);obtain⟨s',lc,rfl,e2,e3,e4⟩:=g1 b o' h3;exact⟨s',lc,g2 h2 s' rfl,e2,e3,e4⟩
  have hopen:∀b o',zit (zc5 ml0) (zcn 0 ct.params) b o'→zpl μ F b o':=by
   rintro b o' ⟨k,l,h1,h2,h3⟩
   obtain⟨s,lc,e1,e2,_,e4⟩:=hopenS k l b o' h1 h2 h3;exact⟨s,lc,e1,e2,e4⟩
  have hown0:∀k l b o',zc5 ml0 k=some l→(zcn 0 ct.params).contains k=false→l.box=false→l.holds b o'→∃s lc,s∈cc.ks∧μ s=some lc∧lc.holds b o':=by
   intro k l b o' h1 h2 hb h3;obtain⟨s,lc,e1,e2,e3,e4⟩:=hopenS k l b o' h1 h2 h3;rcases e1 with e1|⟨p',hp,_,rfl⟩
   · exact⟨s,lc,e1,e2,e4⟩
   · have:=hpsBox p' hp lc e2;rw [e3,hb]at this;cases this
  have hstay:∀i p',cc.ps[i]?=some p'→p'.write=true→∀l0,zc5 ml0 (1000000+i)=some l0→(1000000+i,l0)∈ml∧l0.box=true:=by
   intro i p' hi hw l0 hl0;obtain⟨cs,hm⟩:=Q1 i p' hi hw;obtain⟨l2,h1,h2⟩:=z3u c4 (mra hfh hm);have h3:=c8 _ _ h1 h2.1;rw [hl0]at h3;cases h3;exact⟨h1,h2.1⟩
  have J:Join C μ H h w cc.ks cc.bs F ml H' w':={
   mem:=p.mem
   memc:=c5
   nodup:=c3
   le:=c7
   ksF:=fun k hk=> .inl hk
   ksArr:=hksArr
   wd:=c9.weaken fun b o' _ hh=>hopen b o' hh
   frz:=fun b o' hb=>by
    rcases c10 b o' hb with h1|h1|⟨k,l,h1,h2,h3,h4⟩
    · exact .inl h1
    · exact .inr (.inl h1)
    · exact .inr (.inr (hown0 k l b o' h1 h2 h3 h4))
   loc:=fun k l b o' hm hb hh=>by
    rcases c11 k l b o' hm hh with h1|⟨k0,l0,h1,h2,h3⟩
    · exact .inl h1
    · refine .inr ?_;cases hb0:l0.box with
      | false=>exact hown0 k0 l0 b o' h1 h2 hb0 h3
      | true=>
       obtain⟨i,p',e1,e2,e3⟩:=a5 _ (zhm h1) hb0;simp only at e2 e3;subst e2;have hw:p'.write=true:=by
        cases hw:p'.write with
        | true=>rfl
        | false=>rw [e3 hw]at h2;cases h2
       obtain⟨g1,g2⟩:=hstay i p' e1 hw l0 h1;have:=c5.apart _ _ _ _ _ _ (hWc _ hm) (hWc _ g1) hh h3;subst this;have:=zx5 c3 hm g1;subst this;rw [hb]at hb0;cases hb0
   bsF:=fun k hk hF=>by
    have:=K.bs k hk;rcases hF with hF|⟨p',hp,_,rfl⟩
    · exact this (mra _ hF)
    · exact this (mla _ (List.mem_map.2 ⟨p',hp,rfl⟩))}
  obtain⟨mlf,mlo,rfl,hrf,hro⟩:=F2.split c4;have hWf:zgt (zc5 (mlf++mlo)) mlf:=fun x hx=>hWc x (mla _ hx);have hWo:zgt (zc5 (mlf++mlo)) mlo:=fun x hx=>hWc x (mra _ hx);have hnewq:∀k,zc h k=none→(∃ob,(k,ob)∈q++qr)→μ k=none:=fun k h1 ⟨ob,hm⟩=>hfr k h1 (by
   rw [zjx];have hm:=mla cc.mv hm;cases hg:zc ((q++qr)++cc.mv) k with
   | none=>exact absurd hg (z0p hm)
   | some x=>simp)
  have hspot:∀(i:Nat) p',cc.ps[i]?=some p'→p'.write=true→Spot C μ H h w (zit (zc5 ml0) (zcn 0 ct.params)) mlo (1000000+(0+i)) p':=by
   intro i p' hi hw;rw [Nat.zero_add];obtain⟨lp,b,o',e1,e2,e3,e4,e5⟩:=a3 i p' hi;have hpm:=lma hi;obtain⟨ks,⟨cs,g1,g2,g3⟩,g4⟩:=P1 p' hpm;obtain⟨ob,g5,g6⟩:=hkn p'.k (mla _ (List.mem_map.2 ⟨p',hpm,rfl⟩)) lp e1;rw [g1]at g5;cases g5;have hsz:lp.size=cs.length:=by obtain⟨_,_,_,_,_,q4,_⟩:=g6;exact q4
   refine⟨lp,b,o',cs,e1,e3,g1,g6,g2,fun l' hl'=> ?_,fun x hx hnr=> ?_,fun j k ver ww hj hcj hjs=> ?_⟩
   · have h1:=hW0 _ e5;obtain⟨h2,_⟩:=hstay i p' hi hw _ h1;exact zx5 c3 (mra _ hl') h2
   · rintro ⟨k,l,h1,h2,h3⟩
     have hlp:lp.holds b (o'+x):=⟨o',e3,by omega,by omega⟩;obtain⟨s,lc,f1,f2,f3,f4⟩:=hopenS k l b (o'+x) h1 h2 h3;have:=p.mem.apart _ _ _ _ _ _ f2 e1 f4 hlp;subst this;rw [e1]at f2;cases f2;rw [e2]at f3;obtain⟨i2,p2,t1,t2,t3⟩:=a5 _ (zhm h1) f3.symm;simp only at t2;subst t2;obtain⟨lp2,b2,o2,r1',r2,r3,r4,r5⟩:=a3 i2 p2 t1;have h5:=hW0 _ r5;simp only at h5;rw [h1]at h5;cases h5;obtain⟨o3,u1,u2,u3⟩:=h3;simp only at u1 u3;cases u1;have:=p.mem.apart _ _ _ _ _ _ r1' e1 (⟨o2,r3,by omega,by omega⟩:lp2.holds b (o'+x)) hlp;have hnd:=(List.nodup_append.1 K.nd).1;have hii:i2=i:=by
      have l1:=(gea t1).1;have l2:=(gea hi).1;have z1:(cc.ps.map (·.k))[i2]?=some p2.k:=by rw [gem,t1];rfl
      have z2:(cc.ps.map (·.k))[i]?=some p2.k:=by rw [gem,hi,this];rfl
      exact(List.getElem?_inj (by simpa using l1) hnd).1 (z1.trans z2.symm)
     subst hii;rw [hi]at t1;cases t1;rw [e1]at r1';cases r1';rw [e3]at r3;cases r3;exact hnr ⟨by omega,by omega⟩
   · have hjt:((cs.drop p'.off).take (C.En.sz p'.ty))[j]?=some (.own k ver ww):=by rw [List.getElem?_take,if_pos hjs];exact hj
     obtain⟨t,xs,hg⟩:=(zlf _ _ _ g3).2 j k ver ww hjt (by simpa using hcj);have hV:=(ztj (k:=p'.k) L g6 e3 g2 j _ hjt).1;have hkk:=ztz _ _ _ _ g3 hjt (by simpa using hcj);cases hV with
     | own hl hb hv hpp hh=>
      obtain⟨ob,t1,t2⟩:=hkn k (by simp [g4 k hkk]) _ hl;rw [hg]at t1;cases t1;exact⟨_,hl,hb,t2.2.1⟩
  obtain⟨mlq,m1,m2,m3⟩:=zud L c9 cc.ps 0 _ hoh q mlo c2 hq hro hWo hspot (fun k t1 ⟨ob,t2⟩=>hnewq k t1 ⟨ob,mla _ t2⟩);have hqF:∀k ob,(k,ob)∈q→F k∨zc h k=none:=by
   intro k ob hm;rcases W2 k ob hm with⟨p',h1,h2,h3⟩|⟨p',h1,h2,h3⟩|h1
   · exact .inl (.inr ⟨p',h1,h2,h3⟩)
   · obtain⟨ks,h4,h5⟩:=P1 p' h1;exact .inl (.inl (h5 k (h3 ks h4)))
   · exact .inr h1
  have hFq:∀k,F k→(∃ob,(k,ob)∈q)∨∃ob,(k,ob)∈cc.mv:=by
   rintro k (hk|⟨p',h1,h2,rfl⟩)
   · rcases hksW k hk with⟨p',h1,h2,ks,h3,h4⟩|hm
     · exact .inl ((W1 p' h1 h2).2 ks h3 k h4)
     · exact .inr hm
   · exact .inl (W1 p' h1 h2).1
  let dq:List (Nat × Loc):=cc.mv.map fun p=>match p.2 with
   | .arr v t _=>(p.1,⟨false,none,v,0,C.En.sz t,0⟩)
   | .box _=>(p.1,⟨false,none,0,0,0,0⟩)
  have hdqk:dq.map (·.1)=cc.mv.map (·.1):=by
   rw [List.map_map];refine List.map_congr_left fun p _=> ?_;obtain⟨k,ob⟩:=p;cases ob<;>rfl
  have hdrel:∀μ'' H'',zjq C.En μ'' H'' w' dq cc.mv:=fun μ'' H''=>F2.of_get (by simp [dq]) fun i x p hx hp=>by
   rw [gem,hp]at hx;obtain⟨_,ver,t,xs,_,e2⟩:=P4 p (lma hp);obtain⟨k,ob⟩:=p;simp only at e2;subst e2;cases hx;exact⟨rfl,rfl,rfl,rfl,rfl,rfl,rfl⟩
  have hdq:∀x∈dq,x.2.at_=none∧x.2.box=false∧(μ x.1=none∨∃l,μ x.1=some l∧l.box=false∧l.ver<x.2.ver):=fun x hx=>by
   obtain⟨p,hp,rfl⟩:=List.mem_map.1 hx;obtain⟨e0,ver,t,xs,e1,e2⟩:=P4 p hp;obtain⟨k,ob⟩:=p;simp only at e0 e1 e2;subst e2;refine⟨rfl,rfl,?_⟩;show μ k=none∨∃l,μ k=some l∧l.box=false∧l.ver<ver+1;cases hl:μ k with
   | none=>exact .inl rfl
   | some l=>
    obtain⟨ob,g1,g2⟩:=hkn k (by simp [e0]) l hl;rw [e1]at g1;cases g1;exact .inr ⟨l,rfl,g2.1,by rw [g2.2.1];omega⟩
  have hFwrites:∀k,F k→zg6 C E h o k:=by
   intro k hF;have hw:(∃p'∈cc.ps,p'.write=true)∨cc.mv≠[]:=by
    rcases hF with hk|⟨p',h1,h2,_⟩
    · rcases hksW k hk with⟨p',h1,h2,_⟩|⟨ob,hm⟩
      · exact .inl ⟨p',h1,h2⟩
      · exact .inr (List.ne_nil_of_mem hm)
    · exact .inl ⟨p',h1,h2⟩
   refine⟨?_,?_,?_⟩
   · have hne:(ct.outs.isEmpty&&zs4 ct.params)=false:=by
      cases hnm:zs4 ct.params with
      | false=>simp
      | true=>
       rw [Bool.and_true];rcases hw with⟨p',h1,h2⟩|hw
       · cases hq':ct.outs with
         | nil=>
          have:=K.outs;rw [hq']at this;rw [zsv (List.eq_nil_of_length_eq_zero this.symm) p' h1]at h2;cases h2
         | cons=>rfl
       · exact absurd (P5 hnm) hw
     unfold zar;rw [ho];simp only [hc];cases fo with
     | func f0=>
      simp only [opv]at hf;cases hf;simp only [hct,hne,cond_false]
     | _=>rfl
   · rcases hF with hk|⟨p',h1,_,rfl⟩
     · exact K.fp k (by simp [hk])
     · exact K.fp p'.k (mla _ (List.mem_map.2 ⟨p',h1,rfl⟩))
   · rcases hF with hk|⟨p',h1,h2,rfl⟩
     · exact K.ksro k hk
     · exact K.ro p' h1 h2
  have hksq:∀mq:List (Nat × Loc),(∀k∈mlq.map (·.1),k∈mq.map (·.1))→∀k∈cc.ks,∃l,(k,l)∈mq++dq:=by
   intro mq hsub k hk;have:k∈(mq++dq).map (·.1):=by
    rw [List.map_append];rcases hFq k (.inl hk)with⟨ob,hm⟩|⟨ob,hm⟩
    · exact mla _ (hsub k (by rw [m2];exact List.mem_map.2 ⟨_,hm,rfl⟩))
    · exact mra _ (by rw [hdqk];exact List.mem_map.2 ⟨_,hm,rfl⟩)
   obtain⟨⟨k',l⟩,h1,h2⟩:=List.mem_map.1 this;simp only at h2;subst h2;exact⟨l,h1⟩
  have hboxq:∀(mq mm:List (Nat × Loc)),F2 (z3k μ) mq mm→∀k l,(k,l)∈mq++dq→l.box=true→k∉cc.ks:=by
   intro mq mm hor k l hm hb hk;rcases mpa hm with hm|hm
   rotate_left
   · have:=(hdq _ hm).2.1;simp only at this;rw [hb]at this;cases this
   obtain⟨⟨k2,l2⟩,_,ho'⟩:=F2.mem_left hor hm;rcases ho' with⟨_,o2,_⟩|⟨o1,v,o2,_⟩
   · simp only at o2;rw [hksArr k hk l o2]at hb;cases hb
   · simp only at o1 o2;rw [o2]at hb;simp only at hb;rw [o1]at hb;cases hb
  have hnd1:=zgn hd1;have hres:∀k∈qr,zc h k.1=none:=fun k hk=>by simpa using lat hd2 k hk
  have hdyn:=z3p (ct.results++ct.outs) y;have hconv:∀(fk:List Nat) μ'' H'',H''=zm6 μ H w cc.bs (zcp (zc5 (mlf++mlo)) H' w' fk)→∀t∈ct.results++ct.outs,Conv C (zc5 (mlf++mlo)) H' μ'' H'' w' t:=by
   intro fk μ'' H'' hH t ht;refine z9t L ?_;rcases K.flat with hfl|hbs
   · exact .inl (hfl t ht)
   · refine .inr fun b o' v hv=> ?_;rw [hH];unfold zm6;rw [if_neg (fun hh=> ?_)]
     · exact zgl c5 fk _ _ _ hv
     · refine hh.2 ?_;unfold zcp;rw [if_neg (fun⟨k,l,hk,_⟩=>by rw [hbs]at hk;simp at hk)];exact hh.1
  have hconvP:∀(fk:List Nat) μ'' H'',H''=zm6 μ H w cc.bs (zcp (zc5 (mlf++mlo)) H' w' fk)→∀p'∈cc.ps,p'.write=true→Conv C (zc5 (mlf++mlo)) H' μ'' H'' w' p'.ty:=by
   intro fk μ'' H'' hH p' hp hw;obtain⟨d,hd,e⟩:=Q2 p' hp hw;rw [←e];exact hconv fk μ'' H'' hH _ (hdyn.2 d (List.mem_of_mem_drop hd))
  have hfin:∀μ'' H'',After C F μ H h w (zn5 ((q++qr)++cc.mv) h) μ'' H'' w'→V C.En μ'' H'' r1 u→next (a.put o.dst u) w':=fun μ'' H'' hA hV=>
   hn u μ'' H'' w' hV (hA.of_imp hFwrites L p.mem fun k hk=>p.foot k hk.2.1)
  have hqF':∀k ob,(k,ob)∈(q++qr)++cc.mv→F k∨zc h k=none:=fun k ob hm=>by
   rcases mpa hm with hm|hm
   · rcases mpa hm with hm|hm
     · exact hqF k ob hm
     · exact .inr (hres _ hm)
   · exact .inl (.inl (P4 _ hm).1)
  have hFq':∀k,F k→∃ob,(k,ob)∈(q++qr)++cc.mv:=fun k hk=>by
   rcases hFq k hk with⟨ob,hm⟩|⟨ob,hm⟩
   · exact⟨ob,mla _ (mla _ hm)⟩
   · exact⟨ob,mra _ hm⟩
  have hndo:((mlo++mlf).map (·.1)).Nodup:=by
   rw [List.map_append]at c3⊢;exact(List.perm_append_comm.nodup_iff).1 c3
  cases lit with
  | false=>
   simp only [cond_false]at hr;obtain⟨mlr,n1,n2,n3⟩:=z1t (h:=h) (μ:=μ) L c1 hr hrf hWf c6 hres (fun x hx=>hnewq x.1 (hres x hx) ⟨x.2,mra _ hx⟩);have hkeq:((mlq++mlr)++dq).map (·.1)=((q++qr)++cc.mv).map (·.1):=by simp only [List.map_append,m2,n2,hdqk]
   obtain⟨r1',r2⟩:=join L J (mq0:=mlq++mlr) (mm:=mlo++mlf) rfl (m1.append n1) hdq hndo (fun x hx=>by rcases mpa hx with hx|hx;exact mra _ hx;exact mla _ hx)
    (fk:=[]) (fun x _ hx=>by simp at hx) (fun k hk=>by simp at hk) (by rw [hkeq];exact hnd1) (hksq _ fun k hk=>by rw [List.map_append];exact mla _ hk) (hboxq _ _ (m1.append n1)) (q:=(q++qr)++cc.mv)
    (fun μ'' H'' k1 k2 k3 k4 k5=>((m3 μ'' H'' (fun x hx=>k1 x (mla _ (mla _ hx))) k2 k3 (hconvP [] μ'' H'' k5)).append (n3 μ'' H'' (fun x hx=>k1 x (mla _ (mra _ hx))) fun d hd=>hconv [] μ'' H'' k5 _ (hdyn.2 d (List.mem_of_mem_take hd))).1).append (hdrel μ'' H'')) hqF' hFq'
   exact hfin _ _ r2 (n3 _ _ (fun x hx=>r1' x (mla _ (mra _ hx))) fun d hd=>hconv [] _ _ rfl _ (hdyn.2 d (List.mem_of_mem_take hd))).2
  | true=>
   simp only [cond_true]at hr;have hnf:((hfh++hoh).map (·.1)).Nodup:=by rw [←z3v c4];exact c3
   obtain⟨e0,n3⟩:=zaau (hr:=hfh++hoh) (fk:=hfh.map (·.1)) L c1 hr c5 (fun x hx=>⟨List.mem_map.2 ⟨x,hx,rfl⟩,zj2 hnf (mla _ hx),fun l hl=>z0e c4 _ _ hl⟩) c6 (zmn μ (mlq++dq));subst e0;simp only [List.append_nil]at*;have hkf:mlf.map (·.1)=hfh.map (·.1):=z3v hrf;obtain⟨r1',r2⟩:=join L J (mq0:=mlq) (mm:=mlo) rfl m1 hdq (by rw [List.map_append]at c3;exact(List.nodup_append.1 c3).2.1) (fun x hx=>mra _ hx)
    (fk:=hfh.map (·.1)) (fun x hx hx'=>by
     rw [List.map_append]at c3;rw [←hkf]at hx';exact(List.nodup_append.1 c3).2.2 _ hx' _ (List.mem_map.2 ⟨x,hx,rfl⟩) rfl)
    (fun k hk l hl=>by
     rw [←hkf]at hk;obtain⟨⟨k',l'⟩,h1,h2⟩:=List.mem_map.1 hk;simp only at h2;subst h2;have:=zx5 c3 hl (mla _ h1);subst this;obtain⟨ob,h3,h4⟩:=zvo hrf h1;obtain⟨t,xs,e⟩:=z6a c1 _ h3;simp only at e;subst e;exact h4.1) (by rw [List.map_append,m2,hdqk,←List.map_append];exact hnd1) (hksq _ fun k hk=>hk) (hboxq _ _ m1) (q:=q++cc.mv)
    (fun μ'' H'' k1 k2 k3 k4 k5=>(m3 μ'' H'' (fun x hx=>k1 x (mla _ hx)) k2 k3 (hconvP _ μ'' H'' k5)).append (hdrel μ'' H'')) hqF' hFq'
   refine hfin _ _ r2 (zaeo (w':=w') L hr (fun d hd=>z9t L ?_) n3);rcases K.flat with hfl|hbs
   · exact .inl (hfl _ (hdyn.2 d (List.mem_of_mem_take hd)))
   · refine .inr fun b o' v hv=> ?_;unfold zm6;rw [if_neg (fun hh=> ?_)]
     · exact hv
     · refine hh.2 ?_;unfold zcp;rw [if_neg (fun⟨k,l,hk,_⟩=>by rw [hbs]at hk;simp at hk)];exact hh.1
end
section
variable {U:Uni} {C:Ctx U} {μ:Mp} {H:Fz} {E:List (AV U)} {h h':za U} {a:Act} {w:World} {o:Oper} {v:AV U} {R:Type}
def zlm (C:Ctx U) (E:List (AV U)) (h:za U) (o:Oper) (v:AV U) (h':za U):Prop:=
 (∃q,h'=zn5 q h)∧(∀μ H a w,Pre C μ H E h a w o→(∀k,zc h k=none→zc h' k≠none→μ k=none)→zb3 C μ H E h a w o v h')∧(zj1 C o=true→h'=h)∧∀q,zc h q≠none→¬zg6 C E h o q→zc h' q=zc h q
theorem zy3 {d:Nat} {ob:Ob U} (hh:zc h d=none):∀q,zc h q≠none→¬zg6 C E h o q→zc (zed h d ob) q=zc h q:=fun q hq _=>by
 rw [zdx,if_neg (fun e=>by subst e;exact hq hh)]
theorem zagy {d:Nat} {ob:Ob U} (hw:zg6 C E h o d):∀q,zc h q≠none→¬zg6 C E h o q→zc (zed h d ob) q=zc h q:=fun q _ hn=>by
 rw [zdx,if_neg (fun e=>by subst e;exact hn hw)]
theorem zbi (H1:∀μ H a w,Pre C μ H E h a w o→(∀k,zc h k=none→zc h' k≠none→μ k=none)→zb3 C μ H E h a w o v h')
 (hq:∃q,h'=zn5 q h:=by first|exact⟨[],rfl⟩|exact⟨[(_,_)],rfl⟩|exact⟨_,rfl⟩) (hz:zj1 C o=true→h'=h:=by first|exact fun _=>rfl|(intro hz;simp [zj1, *]at hz))
 (hk:∀q,zc h q≠none→¬zg6 C E h o q→zc h' q=zc h q:=by first|exact fun _ _ _=>rfl|exact zy3 (by assumption)|exact zagy (by assumption)):zlm C E h o v h':=⟨hq,H1,hz,hk⟩
theorem zl3 {d:Nat} {ob:Ob U} (hh:zc h d=none) (hfr:∀k,zc h k=none→zc (zed h d ob) k≠none→μ k=none):μ d=none:=
 hfr d hh (by rw [zdx];simp)
theorem zhb (hs:∀cs b,o.op≠ .select cs b) {k:AV U→Option R} {r:R} (hc:zjf C E o k=some r):∃v,k v=some r∧zlm C E h o v h:=by
 unfold zjf at hc
 cases hall:(o.op.operands.all fun x=>(opv C E x).toVal.isSome)with
 | false=>rw [hall]at hc;cases hc
 | true=>
  rw [hall]at hc;simp only [cond_true]at hc;split at hc
  · rename_i u hu;exact⟨_,hc,zbi fun μ H a w p _=>zacc p hs hall hu⟩
  · cases hc
theorem znr {e:TypeId} {t:U.Ty} (h:zn2 C e t=true):zbh C e=some (C.En.sz t):=by
 unfold zn2 at h
 split at h
 · rename_i s hs;rw [hs,Nat.eq_of_beq_eq_true h]
 · cases h
theorem zac2 {T:TypeId} {av:AV U} (k:AV U→Option R):zqe C T av h k=(zqe C T av h (fun v=>some v)).bind k:=by
 unfold zqe
 cases av with
 | ixp key off n i=>
  simp only;split
  · split
    · split
      · rename_i l _ _ _;cases Nat.beq l.length n<;>simp
      · simp
    · simp
  · simp
 | _=>
  simp only;rw [zsq];rw [zsq _ (fun cs=>(zog C T cs).bind fun v=>some v)];cases zj5 C h _ (fun cs=>some cs)with
  | none=>rfl
  | some cs=>simp [Option.bind_assoc]
theorem zafe {op:BinOp} {T T':TypeId} {x y:Operand} (ho:o.op= .binOp op T x y T') {k:AV U→Option R} {r:R} (hc:binC C op T (opv C E x) (opv C E y) (fun _=>zjf C E o k) k=some r):∃v,k v=some r∧zlm C E h o v h:=by
 have hs:∀cs b,o.op≠ .select cs b:=by rw [ho];intro cs b e;cases e
 unfold binC at hc
 split at hc
 · rename_i kd m kd' n e1 e2;split at hc
   · rename_i hk;subst hk;split at hc
     · cases hc
     · rename_i hn;exact⟨_,hc,zbi fun μ H a w p _=>zako p ho e1 e2 hn⟩
   · cases hc
 · rename_i kd m kd' n e1 e2;split at hc
   · rename_i hk;subst hk;split at hc
     · cases hc
     · rename_i hn;exact⟨_,hc,zbi fun μ H a w p _=>zakn p ho e1 e2 hn⟩
   · cases hc
 · rename_i kd m kd' n e1 e2;split at hc
   · cases hc
   · rename_i hn;exact⟨_,hc,zbi fun μ H a w p _=>zakm p ho e1 e2 hn⟩
 · rename_i kd m kd' n e1 e2;split at hc
   · cases hc
   · rename_i hn;exact⟨_,hc,zbi fun μ H a w p _=>zakl p ho e1 e2 hn⟩
 · rename_i m n e1 e2;split at hc
   · cases hc
   · rename_i hn;exact⟨_,hc,zbi fun μ H a w p _=>zakp p ho e1 e2 hn⟩
 · rename_i cs ds e1 e2;split at hc
   · rename_i b hb;exact⟨_,hc,zbi fun μ H a w p _=>z87 p false ho e1 e2 hb⟩
   · cases hc
 · rename_i cs ds e1 e2;split at hc
   · rename_i b hb;exact⟨_,hc,zbi fun μ H a w p _=>z87 p true ho e1 e2 hb⟩
   · cases hc
 · exact zhb hs hc
theorem z27 (L:CLaws C) {T:TypeId} {x y:Operand} (ho:o.op= .indexAddr T x y) {k:AV U→Option R} {r:R} (hc:zwa C T (opv C E x) (opv C E y) h k=some r):∃v,k v=some r∧zlm C E h o v h:=by
 unfold zwa at hc
 split at hc
 · rename_i e t xs kd i e1 e2 e3;cases hsz:zn2 C e t with
   | false=>rw [hsz]at hc;cases hc
   | true=>
    rw [hsz]at hc;simp only [cond_true,oba]at hc;obtain⟨z,hz,hc⟩:=hc;exact⟨_,hc,zbi fun μ H a w p _=>z1m L p ho e1 e2 e3 hz (znr hsz)⟩
 · rename_i e key ver kd i e1 e2 e3;split at hc
   · rename_i ver' t xs hg;cases hb:(Nat.beq ver ver'&&zn2 C e t)with
     | false=>rw [hb]at hc;cases hc
     | true=>
      rw [hb]at hc;simp only [cond_true]at hc;simp only [baa,zca,decide_eq_true_eq]at hb;obtain⟨rfl,hsz⟩:=hb;split at hc
      · rename_i h0;split at hc
        · rename_i h1;exact⟨_,hc,zbi fun μ H a w p _=>z1l p ho e1 e2 e3 hg h0 h1 (znr hsz)⟩
        · cases hc
      · cases hc
   · cases hc
 · rename_i e key ver off kd i e1 e2 e3;split at hc
   · rename_i ver' t xs hg;cases hb:(Nat.beq ver ver'&&zn2 C e t)with
     | false=>rw [hb]at hc;cases hc
     | true=>
      rw [hb]at hc;simp only [cond_true]at hc;simp only [baa,zca,decide_eq_true_eq]at hb;obtain⟨rfl,hsz⟩:=hb;split at hc
      · rename_i h0;split at hc
        · rename_i h1;exact⟨_,hc,zbi fun μ H a w p _=>z1k p ho e1 e2 e3 hg h0 h1 (znr hsz)⟩
        · cases hc
      · cases hc
   · cases hc
 · rename_i n e t xs kd i e1 e2 e3;split at hc
   · rename_i s hs;cases hb:(Nat.beq s (C.En.sz t)&&Nat.beq n xs.length)with
     | false=>rw [hb]at hc;cases hc
     | true=>
      rw [hb]at hc;simp only [cond_true,oba]at hc;simp only [baa,zca,decide_eq_true_eq]at hb;obtain⟨rfl,hn⟩:=hb;obtain⟨z,hz,hc⟩:=hc;exact⟨_,hc,zbi fun μ H a w p _=>zz7 L p ho e1 e2 e3 hz hs hn⟩
   · cases hc
 · rename_i n e key off kd i e1 e2 e3;split at hc
   · rename_i hs;split at hc
     · rename_i h0;split at hc
       · rename_i h1;exact⟨_,hc,zbi fun μ H a w p _=>z1n p ho e1 e2 e3 hs h0 h1⟩
       · cases hc
     · cases hc
   · cases hc
 · cases hc
theorem zu3 {lo:Option Operand} {kd:IntKind} {i:Int} (h:(lo.map (opv C E)).getD (.sc (.int .i64 0))= .sc (.int kd i)):bnd C E lo 0=some i:=by
 cases lo with
 | none=>simp at h;simp [bnd,h.2]
 | some x=>simp only [Option.map_some,Option.getD_some]at h;simp [bnd,h]
theorem z8b {hi:Option Operand} {kd:IntKind} {j d:Int} (h:hi.map (opv C E)=some (.sc (.int kd j))):bnd C E hi d=some j:=by
 cases hi with
 | none=>simp at h
 | some x=>simp only [Option.map_some,Option.some.injEq]at h;simp [bnd,h]
theorem z3f {hi:Option Operand} {d:Int} (h:hi.map (opv C E)=none):bnd C E hi d=some d:=by
 cases hi with
 | none=>rfl
 | some x=>simp at h
theorem zaaj {T:TypeId} {x:Operand} {lo hi mx:Option Operand} (ho:o.op= .slice T x lo hi mx) {k:AV U→Option R} {r:R} (hc:z5o C T (opv C E x) (lo.map (opv C E)) (hi.map (opv C E)) (mx.map (opv C E)) h k=some r):∃v,k v=some r∧zlm C E h o v h:=by
 unfold z5o at hc
 cases mx with
 | some m=>simp at hc
 | none=>
  simp only [Option.map_none]at hc;split at hc
  · rename_i s e1 e2;split at hc
    · rename_i kj j ki i e3 e4;split at hc
      · rename_i h1;split at hc
        · rename_i h2;exact⟨_,hc,zbi fun μ H a w p _=>zzi p ho e1 e2 (zu3 e4) (z8b e3) h2 h1⟩
        · cases hc
      · cases hc
    · rename_i ki i e3 e4;split at hc
      · rename_i h1;refine⟨_,hc,zbi fun μ H a w p _=> ?_⟩;have:=zzi p ho e1 e2 (zu3 e4) (z3f e3) ⟨h1.1,by omega⟩ ⟨by omega,by omega⟩;simpa using this
      · cases hc
    · cases hc
  · rename_i e t xs e1 e2;cases hsz:zn2 C e t with
    | false=>rw [hsz]at hc;cases hc
    | true=>
     rw [hsz]at hc;simp only [cond_true]at hc;split at hc
     · rename_i kj j ki i e3 e4;split at hc
       · rename_i h1;split at hc
         · rename_i h2;refine⟨_,hc,zbi fun μ H a w p _=>zzk p ho e1 e2 (znr hsz) (zu3 e4) (z8b e3) h2 h1 (fun q z hz=> ?_) (by simp;omega)⟩;rw [List.getElem?_drop,List.getElem?_take]at hz;split at hz
           · exact hz
           · cases hz
         · cases hc
       · cases hc
     · rename_i ki i e3 e4;split at hc
       · rename_i h1;refine⟨_,hc,zbi fun μ H a w p _=>zzk p ho e1 e2 (znr hsz) (zu3 e4) (z3f e3) ⟨h1.1,by omega⟩ ⟨by omega,by omega⟩ (fun q z hz=> ?_) (by simp)⟩;rw [List.getElem?_drop]at hz;exact hz
       · cases hc
     · cases hc
  · rename_i e key ver e1 e2;split at hc
    · rename_i ver' t xs hg;cases hb:(Nat.beq ver ver'&&zn2 C e t)with
      | false=>rw [hb]at hc;cases hc
      | true=>
       rw [hb]at hc;simp only [cond_true]at hc;simp only [baa,zca,decide_eq_true_eq]at hb;obtain⟨rfl,hsz⟩:=hb;split at hc
       · rename_i kj j ki i e3 e4;split at hc
         · rename_i h1;split at hc
           · rename_i h2;exact⟨_,hc,zbi fun μ H a w p _=>zzj p ho e1 e2 hg (znr hsz) (zu3 e4) (z8b e3) h2 h1 rfl rfl⟩
           · cases hc
         · cases hc
       · rename_i ki i e3 e4;split at hc
         · rename_i h1;exact⟨_,hc,zbi fun μ H a w p _=>zzj p ho e1 e2 hg (znr hsz) (zu3 e4) (z3f e3) ⟨h1.1,by omega⟩ ⟨by omega,by omega⟩ rfl (by simp [zai.len])⟩
         · cases hc
       · cases hc
    · cases hc
  · cases hc
theorem zaaf (L:ELaws C.En) {T:TypeId} {x y:Operand} (ho:o.op= .store T x y) (hne:zlp C E h o=[]) {k:za U→Option R} {r:R} (hc:zz0 C T (opv C E x) (opv C E y) h k=some r):∃h',k h'=some r∧zlm C E h o .dead h':=by
 unfold zz0 at hc
 cases hs:zbh C T with
 | none=>rw [hs]at hc;cases hc
 | some n=>
  rw [hs]at hc;simp only at hc;cases hv:(Nat.beq (opv C E y).cells.length n&&(opv C E y).cells.all AV.one)with
  | false=>rw [hv]at hc;cases hc
  | true=>
   rw [hv]at hc;simp only [cond_true]at hc;simp only [baa,zca,decide_eq_true_eq]at hv;obtain⟨hn,h1⟩:=hv;split at hc
   · rename_i key off e1;split at hc
     · rename_i cs hg;cases hb:(Nat.ble (off+n) cs.length&& !C.ro.contains key)with
       | false=>rw [hb]at hc;cases hc
       | true=>
        rw [hb]at hc;simp only [cond_true]at hc;simp only [baa,Bool.not_eq_true']at hb;have hwr:zg6 C E h o key:=⟨zmx ho,zcr (by simp [zar,ho]) (x:=x) (by simp [ho,Op.operands]) (by simp [e1,zdn,zc4]),hb.2⟩;exact⟨_,hc,zbi fun μ H a w p _=>z8q L p ho e1 hg hs hn h1 (Nat.le_of_ble_eq_true hb.1) hb.2⟩
     · cases hc
   · rename_i key ver i off e1;split at hc
     · rename_i ver' t xs hg;cases hb:(Nat.beq ver ver'&&(Nat.ble (off+n) (C.En.sz t)&& !C.ro.contains key))with
       | false=>rw [hb]at hc;cases hc
       | true=>
        rw [hb]at hc;simp only [cond_true,oba]at hc;simp only [baa,Bool.not_eq_true',zca,decide_eq_true_eq]at hb;obtain⟨rfl,hle,hro⟩:=hb;obtain⟨e,he,e',he',hc⟩:=hc;have hno:zfl (opv C E y)=[]:=by
         unfold zlp at hne;rw [ho]at hne;simp only [e1]at hne;exact hne
        have hwr:zg6 C E h o key:=⟨zmx ho,zcr (by simp [zar,ho]) (x:=x) (by simp [ho,Op.operands]) (by simp [e1,zdn,zc4]),hro⟩;exact⟨_,hc,zbi fun μ H a w p _=>z5u L p ho e1 hg hs hn h1 (Nat.le_of_ble_eq_true hle) he hno he' hro⟩
     · cases hc
   · rename_i key off m i e1;split at hc
     · rename_i kd z cs e2 hg;split at hc
       · rename_i l hl;cases hb:(Nat.beq l.length m&& !C.ro.contains key)with
         | false=>rw [hb]at hc;cases hc
         | true=>
          rw [hb]at hc;simp only [cond_true]at hc;simp only [baa,Bool.not_eq_true',zca,decide_eq_true_eq]at hb;have hn1:n=1:=by rw [←hn,e2];rfl
          subst hn1;have hwr:zg6 C E h o key:=⟨zmx ho,zcr (by simp [zar,ho]) (x:=x) (by simp [ho,Op.operands]) (by simp [e1,zdn,zc4]),hb.2⟩;exact⟨_,hc,zbi fun μ H a w p _=>z8r L p ho e1 hg hs e2 hl hb.1 hb.2⟩
       · cases hc
     · cases hc
   · cases hc
theorem z81 (L:CLaws C) {c:Call} {x y:Operand} {T T' e':TypeId} (ho:o.op= .call c) (hcal:c.callee= .builtin .append) (hargs:c.args.toList=[x,y]) (hT:c.argTypes.toList=[T,T']) (hT':zh8 C T'=some e') {d:Nat} {k:AV U→za U→Option R} {r:R}
 (hc:z3i C d T (opv C E x) (opv C E y) h k=some r):∃v h',k v h'=some r∧zlm C E h o v h':=by
 unfold z3i at hc
 cases hgs:zh8 C T with
 | none=>rw [hgs]at hc;cases hc
 | some e=>
  rw [hgs]at hc;simp only at hc;have hu:=zfn hgs;have hu':=zfn hT';split at hc
  · rename_i t e1 e2;split at hc
    · rename_i hh;rw [oba]at hc;obtain⟨ys,hy,hc⟩:=hc;cases hr:zh5 C e ys.length with
      | false=>rw [hr]at hc;cases hc
      | true=>
       rw [hr]at hc;exact⟨_,_,hc,zbi fun μ H a w p hfr=>z5x L.e p ho hcal hargs hT hu hu' (L.go _ _ e1).1 e2 hy hr (zl3 hh hfr) hh⟩
    · cases hc
  · rename_i t key ver ww e1 e2;split at hc
    · rename_i ver' t' xs hg;cases hq:U.eqTy t t' with
      | none=>rw [hq]at hc;cases hc
      | some eq=>
       obtain⟨eq⟩:=eq;subst eq;rw [hq]at hc;simp only [zrb]at hc;cases hb:(Nat.beq ver ver'&& !C.ro.contains key)with
       | false=>rw [hb]at hc;cases hc
       | true=>
        rw [hb]at hc;simp only [cond_true,oba]at hc;simp only [baa,Bool.not_eq_true',zca,decide_eq_true_eq]at hb;obtain⟨rfl,hro⟩:=hb;obtain⟨ys,hy,hc⟩:=hc;cases hr:zh5 C e ((zbu ww xs).length+ys.length)with
        | false=>rw [hr]at hc;cases hc
        | true=>
         rw [hr]at hc;have ha:c.args= #[x,y]:=by apply Array.ext';simpa using hargs
         have hxm:x∈o.op.operands:=by simp [ho,Op.operands,Call.operands,hcal,ha]
         have hcl:zar C o=2:=by simp [zar,ho,hcal]
         have hwr:zg6 C E h o key:=⟨hcl,zcr (by rw [hcl];simp) hxm (by simp [e2,zdn,zc4]),hro⟩;exact⟨_,_,hc,zbi fun μ H a w p hfr=>z5w L.e p ho hcal hargs hT hu hu' (L.go _ _ e1).1 e2 hg hy hr hro⟩
    · cases hc
  · cases hc
theorem zww:∀(ps:List (Pl U)) (ds:List (Dyn U)) (q:za U),(∀p∈ps,p.write=false)→zjs C h ps ds=some q→q=[]
 | [],ds,q,_,hq=>by
  cases ds with
  | nil=>cases hq;rfl
  | cons=>cases hq
 | p::ps,ds,q,hp,hq=>by
  unfold zjs at hq;rw [hp p msa]at hq;exact zww ps ds q (fun p' hp'=>hp p' (mca _ hp')) hq
theorem zsc {base:Nat} {rd:List (Dyn U)} {r1:AV U} {qr:za U} (h1:zb6 C base [] rd=some (r1,qr)):qr=[]:=by
 unfold zb6 at h1
 split at h1<;>simp at h1<;>exact h1.2
theorem zub {c:Call} {fo:Operand} {f:FuncId} {caps:List (AV U)} (ho:o.op= .call c) (hc:c.callee= .value fo) (hf:opv C E fo= .fn f caps) {ct:Ct U} (hct:C.O f=some ct)
 {cc:Coll U} {as:List (AV U)} (hcol:zaq C h ct.params as=some cc) (hok:zu0 C ct (zby C E h o) cc=true):∀k,(k∈cc.ks∨∃p∈cc.ps,p.write=true∧p.k=k)→zg6 C E h o k:=by
 have K:=zsr hok
 obtain⟨P1,P2,P3⟩:=zk9 _ _ _ hcol
 obtain⟨P4,P5⟩:=zjp _ _ _ hcol
 have hksW:∀k∈cc.ks,(∃p∈cc.ps,p.write=true)∨cc.mv≠[]:=by
  intro k hk;rcases P2 k hk with⟨p',h1,ks,h2,h3⟩|⟨ob,hm⟩
  rotate_left
  · exact .inr (List.ne_nil_of_mem hm)
  refine .inl ⟨p',h1,?_⟩;cases hw:p'.write with
  | true=>rfl
  | false=>
   obtain⟨cs,_,_,h4⟩:=h2;rw [K.rd p' h1 hw]at h4;rw [zty _ _ h4]at h3;simp at h3
 intro k hF
 have hw:(∃p'∈cc.ps,p'.write=true)∨cc.mv≠[]:=by
  rcases hF with hk|⟨p',h1,h2,_⟩
  · exact hksW k hk
  · exact .inl ⟨p',h1,h2⟩
 refine⟨?_,?_,?_⟩
 · have hne:(ct.outs.isEmpty&&zs4 ct.params)=false:=by
    cases hnm:zs4 ct.params with
    | false=>simp
    | true=>
     rw [Bool.and_true];rcases hw with⟨p',h1,h2⟩|hw
     · cases hq':ct.outs with
       | nil=>
        have:=K.outs;rw [hq']at this;rw [zsv (List.eq_nil_of_length_eq_zero this.symm) p' h1]at h2;cases h2
       | cons=>rfl
     · exact absurd (P5 hnm) hw
   unfold zar;rw [ho];simp only [hc];cases fo with
   | func f0=>
    simp only [opv]at hf;cases hf;simp only [hct,hne,cond_false]
   | _=>rfl
 · rcases hF with hk|⟨p',h1,_,rfl⟩
   · exact K.fp k (by simp [hk])
   · exact K.fp p'.k (mla _ (List.mem_map.2 ⟨p',h1,rfl⟩))
 · rcases hF with hk|⟨p',h1,h2,rfl⟩
   · exact K.ksro k hk
   · exact K.ro p' h1 h2
theorem zadm (L:ELaws C.En) (O:OOK C) {c:Call} {fo:Operand} {f:FuncId} {caps:List (AV U)} (ho:o.op= .call c) (hcal:c.callee= .value fo) (hf:opv C E fo= .fn f caps) {d:Nat} {k:AV U→za U→Option R} {r:R}
 (hd:d=o.dst.getD 0) (hc:zabj C d f (zby C E h o) (c.args.toList.map (opv C E)++caps) h k=some r):∃v h',k v h'=some r∧zlm C E h o v h':=by
 unfold zabj at hc
 cases hct:C.O f with
 | none=>rw [hct]at hc;cases hc
 | some ct=>
  rw [hct]at hc;simp only at hc;split at hc
  · cases hc
  · rename_i cc hcol;cases hok:zu0 C ct (zby C E h o) cc with
    | false=>rw [hok]at hc;cases hc
    | true=>
     rw [hok]at hc;simp only [cond_true,oba]at hc;obtain⟨y,hy,hc⟩:=hc;split at hc
     · cases hc
     · rename_i q hq;split at hc
       · cases hc
       · rename_i rr hr;cases hb:(zh0 (((q++rr.2)++cc.mv).map (·.1))&&rr.2.all fun p=>(zc h p.1).isNone)with
         | false=>rw [hb]at hc;cases hc
         | true=>
          rw [hb]at hc;obtain⟨hd1,hd2⟩:=(baa _ _).mp hb;refine⟨_,_,hc,zbi (fun μ H a w p hfr=>zaiy L O p ho hcal hf hct hcol hok hy hq hr hd1 hd2 hfr) ⟨_,rfl⟩ (fun hz=> ?_) (fun q' hq' hw=>by
           rw [zjx];cases hg:zc ((q++rr.2)++cc.mv) q' with
           | none=>rfl
           | some x=>
            exfalso
            rcases mpa (zsm hg)with hm|hm
            rotate_left
            · exact hw (zub ho hcal hf hct hcol hok q' (.inl ((zjp _ _ _ hcol).1 _ hm).1))
            rcases mpa hm with hm|hm
            · obtain⟨P1,_,_⟩:=zk9 _ _ _ hcol;rcases(znp L _ _ _ hq).2 q' x hm with⟨p',h1,h2,h3⟩|⟨p',h1,h2,h3⟩|h1
              · exact hw (zub ho hcal hf hct hcol hok q' (.inr ⟨p',h1,h2,h3⟩))
              · obtain⟨ks,h4,h5⟩:=P1 p' h1;exact hw (zub ho hcal hf hct hcol hok q' (.inl (h5 q' (h3 ks h4))))
              · exact hq' h1
            · have:=lat hd2 _ hm;simp at this;exact hq' this)⟩
          unfold zj1 at hz;rw [ho]at hz;simp only [hcal]at hz;cases fo with
          | func f'=>
           simp only [opv]at hf;cases hf;simp only [hct,baa,Bool.or_eq_true,List.isEmpty_iff]at hz;obtain⟨⟨hz1,hz0⟩,hz2⟩:=hz;have e0:=(zjp _ _ _ hcol).2 hz0;have K:=zsr hok;have hw:=K.outs;rw [hz1]at hw;have e1:=zww _ _ _ (zsv (List.eq_nil_of_length_eq_zero hw.symm)) hq;obtain⟨rv,qr⟩:=rr;have e2:qr=[]:=by
            rcases hz2 with hz2|hz2
            · rw [hz2]at hr;cases hl:C.lits.contains d<;>rw [hl]at hr<;>exact zsc hr
            · rw [hd,hz2]at hr;exact zsc hr
           rw [e0,e1,e2];rfl
          | _=>cases hz
theorem zrz {α:Type} {c:Bool} {x:Option α} {y:α} (h:cond c x none=some y):c=true∧x=some y:=by
 cases c with
 | false=>cases h
 | true=>exact⟨rfl,h⟩
theorem zaei (L:ELaws C.En) (p:Pre C μ H E h a w o) {T e:TypeId} {x m y:Operand} {lo:Option Operand} (ho:o.op= .slice T x lo (some y) (some m)) (hu:C.P.underlying T=some (.slice e)) {t:U.Ty} (hs:zbh C e=some (C.En.sz t))
 {kl ky km:IntKind} (hlo:(lo.map (opv C E)).getD (.sc (.int .i64 0))= .sc (.int kl 0)) (hy:opv C E y= .sc (.int ky 0)) (hm:opv C E m= .sc (.int km 0)) (hx:(match opv C E x with| .lst _ _| .own _ _ _=>true|_=>false)=true)
 {d:Nat} (hk:μ d=none) (hh:zc h d=none):zb3 C μ H E h a w o (.own d 0 .full) (zed h d (.arr 0 t [])):=by
 have hcl:zar C o=1:=by simp [zar,ho]
 have hsl:∃ad n cap,a.eval x= .slice ad n cap:=by
  have hV:=p.ops x (by simp [ho,Op.operands]);generalize hq:opv C E x=q at hV hx;generalize a.eval x=u at hV;cases hV with
  | lst=>exact⟨_,_,_,rfl⟩
  | own hl hb hv hpp hh=>exact hpp
  | _=>cases hx
 obtain⟨ad,n,cap,hxe⟩:=hsl
 have hye:=(hy▸p.ops y (by simp [ho,Op.operands])).int
 have hme:=(hm▸p.ops m (by simp [ho,Op.operands])).int
 have hrun:(execOp a.eval o).run C.P w= .ok (.value (.slice ad 0 0)) w:=by
  cases lo with
  | none=>simp [execOp,ho,hxe,hye,hme,Instr.sliceAt,run_underlying hu,Instr.slice,Instr.sliceBounds,Instr.sliceBound,asIntOf,zga hs]
  | some z=>
   simp only [Option.map_some,Option.getD_some]at hlo;have hze:=(hlo▸p.ops z (by simp [ho,Op.operands])).int;simp [execOp,ho,hxe,hye,hme,hze,Instr.sliceAt,run_underlying hu,Instr.slice,Instr.sliceBounds,Instr.sliceBound,asIntOf,zga hs]
 intro next Q hn
 refine zm5 hrun (hn _ (μ.upd d ⟨false,some (0,0),0,0,C.En.sz t,0⟩) H w ?_ ?_)
 · refine .own (Mp.upd_self _ _ _) rfl (Nat.le_refl _) ⟨_,_,_,rfl⟩ fun _=> ?_;exact⟨by simp [zai.off,zai.len],ad,0,by simp [zai.len],by simp [zai.len],fun hne=>absurd rfl hne,by simp [zai.off]⟩
 · have hno:∀b o',¬(⟨false,some (0,0),0,0,C.En.sz t,0⟩:Loc).holds b o':=fun b o' ⟨o0,h1,h2,h3⟩=>by cases h1;simp at h3
   have hsub:∀k l b o',(μ.upd d ⟨false,some (0,0),0,0,C.En.sz t,0⟩) k=some l→l.holds b o'→μ k=some l:=fun k l b o' hl hh=>by
    unfold Mp.upd at hl;split at hl
    · cases hl;exact absurd hh (hno b o')
    · exact hl
   have hnw:∀k,¬zg6 C E h o k:=fun k hw=>by have:=hw.1;rw [hcl]at this;cases this
   refine {
    leH:=H.le_refl
    leM:=μ.le_upd _ hk
    mem:={
     frz:=p.mem.frz
     apart:=fun k k' l l' b o' h1 h2 g1 g2=>p.mem.apart k k' l l' b o' (hsub _ _ _ _ h1 g1) (hsub _ _ _ _ h2 g2) g1 g2
     free:=fun k l b o' h1 g1=>p.mem.free k l b o' (hsub _ _ _ _ h1 g1) g1
     inside:=fun k l b o' h1 g1=>p.mem.inside k l b o' (hsub _ _ _ _ h1 g1) g1}
    wd:=Wd.refl _ w
    same:=fun k _ hc=> ?_
    objs:=fun k l' hc hl=> ?_
    frzNew:=fun b o' hb=> .inl hb
    locNew:=fun k l' b o' h1 g1=> .inl ⟨l',hsub _ _ _ _ h1 g1,g1⟩}
   · have hkd:¬k=d:=fun e=>hc (by subst e;exact⟨hh,by rw [zdx];simp⟩);exact⟨by simp [Mp.upd,hkd],by rw [zdx,if_neg hkd]⟩
   · have hkd:k=d:=by
      rcases hc with hc|⟨h1,h2⟩
      · exact absurd hc (hnw k)
      · refine Classical.byContradiction fun e=>h2 ?_;rw [zdx,if_neg e];exact h1
     subst hkd;rw [Mp.upd_self]at hl;cases hl;refine⟨.arr 0 t [],by rw [zdx];simp,rfl,rfl,rfl,rfl,?_⟩;exact⟨by simp,fun j hj=>by simp at hj,fun i x hx=>by simp at hx⟩
theorem z8l (L:CLaws C) {T:TypeId} {x m:Operand} {lo hi:Option Operand} (ho:o.op= .slice T x lo hi (some m)) {d:Nat} {k:AV U→za U→Option R} {r:R}
 (hc:z2u C d T (opv C E x) (lo.map (opv C E)) (hi.map (opv C E)) (opv C E m) h k=some r):∃v h',k v h'=some r∧zlm C E h o v h':=by
 unfold z2u at hc
 split at hc
 · cases hc
 · rename_i e hgs;split at hc
   · rename_i t kl i kj j kn n e1 hh e2 e3 e4;split at hc
     · rename_i hi0;split at hc
       · rename_i hj0;split at hc
         · rename_i hn0;obtain⟨hx,hc⟩:=zrz hc;subst hi0 hj0 hn0;cases hi with
           | none=>cases e3
           | some y=>
            simp only [Option.map_some,Option.some.injEq]at e3;exact⟨_,_,hc,zbi (fun μ H a w p hfr=>zaei L.e p ho (zfn hgs) (L.go _ _ e1).1 e2 e3 e4 hx (zl3 hh hfr) hh) ⟨[(_,_)],rfl⟩ (fun hz=>by simp [zj1,ho]at hz) (zy3 hh)⟩
         · cases hc
       · cases hc
     · cases hc
   · cases hc
theorem z0b {P:Program} (w:World) (t tx ty e:TypeId) (kk:IntKind) (i:TypeInfo) (z:Value) (ht:P.underlying t=some (.slice e)) (hk:P.underlying tx=some (.int kk)) (hi:P.info? e=some i) (hz:i.zero=some z) (hsz:0<i.size) (n:Nat) (hpos:0<n)
 (hb:n*i.bytes≤70368744177664) (hn:n≤70368744177664) (hfit:Builtin.nextslicecap n 0*i.bytes≤281474976710656):
 (Builtin.append_ #[t,tx] ty #[.slice none 0 0,.int .i64 n]).run P w=
  .ok (.slice (some ⟨w.heap.size,0,none⟩) n (grownCap w n 0 e)) (w.drew.alloc (.cells (Builtin.zeroCells z.cells n++Builtin.zeroCells z.cells (grownCap w n 0 e-n)) e)):=by
 have h1:IntKind.i64.wrap (n:Int)=n:=by rw [IntKind.wrap_i64];omega
 have h0:¬((n:Int)<0):=by omega
 have h2:¬(281474976710656<(n:Int)*(i.bytes:Int)):=by
  have:((n*i.bytes:Nat):Int)=(n:Int)*(i.bytes:Int):=Int.natCast_mul ..;omega
 have h3:¬n=0:=by omega
 have h5:¬(9223372036854775807<(n:Int)):=by omega
 have h6:¬(281474976710656<Builtin.nextslicecap n 0*i.bytes):=by omega
 simp [Builtin.append_,run_underlying ht,run_underlying hk,sizeOf,typeInfo,zeroValue,hi,hz,asInt,asIntOf,h1,h0,h2,h3,h5,h6,Question.forced,newRow,grownCap,Builtin.firstCells]
 intro hx
 rcases Nat.mul_eq_zero.1 hx with h|h<;>omega
theorem z1o {P:Program} (w:World) (t tx ty e:TypeId) (kk:IntKind) (i:TypeInfo) (ht:P.underlying t=some (.slice e)) (hk:P.underlying tx=some (.int kk)) (hi:P.info? e=some i):
 (Builtin.append_ #[t,tx] ty #[.slice none 0 0,.int .i64 0]).run P w= .ok (.slice none 0 0) w:=by
 have h1:IntKind.i64.wrap 0=0:=by rw [IntKind.wrap_i64];omega
 simp [Builtin.append_,run_underlying ht,run_underlying hk,sizeOf,typeInfo,hi,asInt,asIntOf,h1]
theorem z2v (L:ELaws C.En) (p:Pre C μ H E h a w o) {c:Call} {x y:Operand} {T T' e:TypeId} {kk:IntKind} (ho:o.op= .call c) (hc:c.callee= .builtin .append) (hargs:c.args.toList=[x,y]) (hT:c.argTypes.toList=[T,T'])
 (hu:C.P.underlying T=some (.slice e)) (hu':C.P.underlying T'=some (.int kk)) {t:U.Ty} (hs:zbh C e=some (C.En.sz t)) (hx:opv C E x= .sc (.slice none 0 0)) {n:Int} (hy:opv C E y= .sc (.int .i64 n)) (hn:0≤n)
 {zs:List (AV U)} (hz:zel C e=some zs) {z:U.den t} (hre:C.En.reify t zs=some z) (hr:zh5 C e n.toNat=true) {d:Nat} (hk:μ d=none) (hh:zc h d=none):zb3 C μ H E h a w o (.own d 0 .full) (zed h d (.arr 0 t (List.replicate n.toNat z))):=by
 have ha:c.args= #[x,y]:=by apply Array.ext';simpa using hargs
 have hux:=(hx▸p.ops x (by simp [ho,Op.operands,Call.operands,hc,ha])).int
 have huy:=(hy▸p.ops y (by simp [ho,Op.operands,Call.operands,hc,ha])).int
 have hop:=zue (a:=a) ho hc hargs hT
 obtain⟨i,zv,h1,h2,rfl⟩:=zjy hz
 obtain⟨r1,r2,_⟩:=zsb h1 hr
 obtain⟨hzl,hzr⟩:=L.reify t _ _ hre
 have hsz:i.size=C.En.sz t:=by simpa [zbh,h1]using hs
 have hzs:zv.cells.size=C.En.sz t:=by simpa using hzl
 have hnn:n=(n.toNat:Int):=by omega
 have hpos:=L.pos t
 generalize hm:n.toNat=m at*
 subst hnn
 by_cases h0:m=0
 · subst h0;refine zqm L p hk hh (Wd.refl _ w) (l:=⟨false,none,0,0,C.En.sz t,0⟩) (cv:= .slice none 0 0) ?_ (fun b o' ⟨o0,h1,_⟩=>by cases h1) ?_ ?_
   · rw [hop,hux,huy];have:=z1o (P:=C.P) w T T' o.type e kk i hu hu' h1;simp [this]
   · exact⟨rfl,rfl,rfl,rfl,rfl,rfl⟩
   · exact .own (Mp.upd_self _ _ _) rfl (Nat.le_refl _) ⟨_,_,_,rfl⟩ fun _=>⟨Nat.le_refl _,rfl,rfl⟩
 · have hfit:=growslice_fits (need:=m) (old:=0) (bytes:=i.bytes) (by omega) (by omega);have hrun:=z0b (P:=C.P) w T T' o.type e kk i zv hu hu' h1 h2 (by omega) m (by omega) r1 r2 hfit;have hge:=grownCap_ge w m 0 e;have hus:(Builtin.zeroCells zv.cells m++Builtin.zeroCells zv.cells (grownCap w m 0 e-m)).size=grownCap w m 0 e*C.En.sz t:=by
    simp only [Array.size_append,size_zeroCells,hzs,←Nat.add_mul]
    congr 1
    omega
   refine zqm L p hk hh ((Wd.draw _ w (w.drawn+1)).trans (zom w.drew _)) (l:=⟨false,some (w.drew.heap.size,0),0,(List.replicate m z).length,C.En.sz t,(Builtin.zeroCells zv.cells m++Builtin.zeroCells zv.cells (grownCap w m 0 e-m)).size⟩)
    (cv:= .slice (some ⟨w.heap.size,0,none⟩) m (grownCap w m 0 e)) ?_ (fun b o' ⟨o0,h1,_⟩=> ?_)
    (zo3 L (by rw [hus];simpa using Nat.mul_le_mul_right (C.En.sz t) hge) (fun q x' hq j cc hj=> ?_) w.drew e (0,0) (by simp) 0) ?_
   · rw [hop,hux,huy];simp [hrun]
   · cases h1;have:(w.drew.alloc (.cells (Builtin.zeroCells zv.cells m++Builtin.zeroCells zv.cells (grownCap w m 0 e-m)) e (0,0))).heap.size=w.heap.size+1:=by unfold World.alloc World.drew;simp
     refine⟨Nat.le_refl _,?_⟩;show w.heap.size<(w.drew.alloc (.cells _ e (0,0))).heap.size;omega
   · have hql:=(gea hq).1;rw [List.length_replicate]at hql;have hx':x'=z:=by
      rw [List.getElem?_replicate,if_pos hql]at hq;exact(Option.some.inj hq).symm
     subst hx';have hjl:=(gea hj).1;rw [L.sz]at hjl;have hlt:=zmo hql hjl;have hg:=zwv zv.cells m q j (by omega) hql;rw [hzs]at hg;have hv:(Builtin.zeroCells zv.cells m++Builtin.zeroCells zv.cells (grownCap w m 0 e-m)).getD (q*C.En.sz t+j) undef=zv.cells.getD j undef:=by
      rw [agd,Array.getElem?_append_left (by rw [size_zeroCells,hzs];exact hlt),←Array.getElem?_toList,hg];rfl
     rw [hv];have hjz:j<zv.cells.size:=by omega
     have hcz:(zv.cells.toList.map (AV.sc (U:=U)))[j]?=some (.sc (zv.cells.getD j undef)):=by
      simp [Array.getD,hjz]
     exact V.ref (.sc _) (hzr j _ cc hcz hj)
   · refine .own (Mp.upd_self _ _ _) rfl (Nat.le_refl _) ⟨_,_,_,rfl⟩ fun _=>⟨by simp [zai.off,zai.len],?_⟩;exact⟨some ⟨w.heap.size,0,none⟩,grownCap w m 0 e,by simp [zai.len],by simp [zai.len];exact hge,fun _=>by simp [zai.off],by simp only [zai.off,Nat.zero_add];rw [hus];exact Nat.le_refl _⟩
theorem zaa5 {x:AV U} (h:zs9 x=true):x= .sc (.slice none 0 0):=by
 unfold zs9 at h
 split at h
 · rfl
 · cases h
theorem z8e (L:CLaws C) {c:Call} {x y:Operand} {T T':TypeId} {kk:IntKind} (ho:o.op= .call c) (hcal:c.callee= .builtin .append) (hargs:c.args.toList=[x,y]) (hT:c.argTypes.toList=[T,T']) (hu':C.P.underlying T'=some (.int kk)) {d:Nat} {k:AV U→za U→Option R} {r:R}
 (hc:z3h C d T (opv C E x) (opv C E y) h k=some r):∃v h',k v h'=some r∧zlm C E h o v h':=by
 unfold z3h at hc
 split at hc
 · cases hc
 · rename_i e hgs;split at hc
   · rename_i t zs n e1 hz hh hy;obtain⟨hx,hc⟩:=zrz hc;rw [oba]at hc;obtain⟨z,hre,hc⟩:=hc;split at hc
     · rename_i hn;obtain⟨hr,hc⟩:=zrz hc;exact⟨_,_,hc,zbi (fun μ H a w p hfr=>z2v L.e p ho hcal hargs hT (zfn hgs) hu' (L.go _ _ e1).1 (zaa5 hx) hy hn hz hre hr (zl3 hh hfr) hh) ⟨[(_,_)],rfl⟩ (fun hz=>by simp [zj1,ho,hcal]at hz) (zy3 hh)⟩
     · cases hc
   · cases hc
end
section
variable {U:Uni} {C:Ctx U} {μ:Mp} {H:Fz} {E:List (AV U)} {h h':za U} {a:Act} {w:World} {o:Oper} {v:AV U} {R:Type}
theorem zabh (L:CLaws C) {c:Call} {x:Operand} {T:TypeId} (ho:o.op= .call c) (hcal:c.callee= .builtin .clear) (hargs:c.args.toList=[x]) (hT:c.argTypes.toList=[T]) {e:TypeId} (hgs:zh8 C T=some e) {key ver:Nat} {ww:zai} (hx:opv C E x= .own key ver ww)
 {t:U.Ty} {xs:List (U.den t)} (hg:zc h key=some (.arr ver t xs)) {zs:List (AV U)} (hz:zel C e=some zs) (hs:zbh C e=some (C.En.sz t)) {z:U.den t} (hre:C.En.reify t zs=some z) (hro:C.ro.contains key=false) {ys:List (U.den t)}
 (hys:ys=xs.take ww.off++List.replicate (ww.len xs.length) z++xs.drop (ww.off+ww.len xs.length)):zlm C E h o (.tup []) (zed h key (.arr ver t ys)):=by
 have hu:=zfn hgs
 have hwr:zg6 C E h o key:=by
  have ha:c.args= #[x]:=by apply Array.ext';simpa using hargs
  have hcl:zar C o=2:=by simp [zar,ho,hcal]
  exact⟨hcl,zcr (by rw [hcl];simp) (x:=x) (by simp [ho,Op.operands,Call.operands,hcal,ha]) (by simp [hx,zdn,zc4]),hro⟩
 refine zbi ?_
 intro μ H a w p _
 have hlen:ww.off+ww.len xs.length≤xs.length:=by
  have ha:c.args= #[x]:=by apply Array.ext';simpa using hargs
  have hxm:x∈o.op.operands:=by simp [ho,Op.operands,Call.operands,hcal,ha]
  have hV:=hx▸p.ops x hxm;cases hV with
  | own hl hb hv hpp hh=>
   obtain⟨ob,g1,g2⟩:=p.foot key (zcr (by simp [zar,ho,hcal]) hxm (by simp [hx,zdn,zc4])) _ hl;rw [hg]at g1;cases g1;have:=(hh g2.2.1.symm).1;rw [g2.2.2.1]at this;exact this
 have hm:min ww.off xs.length=ww.off:=by omega
 refine zagk L.e p ho hcal hargs hT hu hs hz hre hx hg ?_ ?_ hro
 · rw [hys];simp;omega
 · intro i y hy;rw [hys,List.append_assoc,List.getElem?_append]at hy;simp only [List.length_take,hm]at hy;split at hy
   · rename_i hlt;rw [List.getElem?_take,if_pos hlt]at hy;exact .inr ⟨by omega,hy⟩
   · rename_i hlt;rw [List.getElem?_append]at hy;simp only [List.length_replicate]at hy;split at hy
     · rename_i h2;rw [List.getElem?_replicate,if_pos h2]at hy;exact .inl ⟨by omega,by omega,(Option.some.inj hy).symm⟩
     · rename_i h2;rw [List.getElem?_drop]at hy;refine .inr ⟨by omega,?_⟩;rw [←hy]
       congr 1
       omega
theorem zadh (L:CLaws C) {c:Call} {x y:Operand} {T T':TypeId} (ho:o.op= .call c) (hcal:c.callee= .builtin .copy) (hargs:c.args.toList=[x,y]) (hT:c.argTypes.toList=[T,T']) {e:TypeId} (hgs:zh8 C T=some e) {key ver:Nat} {ww:zai} (hx:opv C E x= .own key ver ww)
 {t:U.Ty} {xs ys:List (U.den t)} (hg:zc h key=some (.arr ver t xs)) (hs:zbh C e=some (C.En.sz t)) (h1:C.En.sz t=1) (hy:zly h t (opv C E y)=some ys) (hro:C.ro.contains key=false) {m:Nat} (hm:m=min ys.length (ww.len xs.length)) {zs:List (U.den t)} (hzs:zs=xs.take ww.off++ys.take m++xs.drop (ww.off+m)):
 zlm C E h o (.sc (.int .i64 (m:Int))) (zed h key (.arr ver t zs)):=by
 subst hzs
 have hu:=zfn hgs
 have hwr:zg6 C E h o key:=by
  have ha:c.args= #[x,y]:=by apply Array.ext';simpa using hargs
  have hcl:zar C o=2:=by simp [zar,ho,hcal]
  exact⟨hcl,zcr (by rw [hcl];simp) (x:=x) (by simp [ho,Op.operands,Call.operands,hcal,ha]) (by simp [hx,zdn,zc4]),hro⟩
 refine zbi ?_
 intro μ H a w p _
 have hlen:ww.off+ww.len xs.length≤xs.length:=by
  have ha:c.args= #[x,y]:=by apply Array.ext';simpa using hargs
  have hxm:x∈o.op.operands:=by simp [ho,Op.operands,Call.operands,hcal,ha]
  have hV:=hx▸p.ops x hxm;cases hV with
  | own hl hb hv hpp hh=>
   obtain⟨ob,g1,g2⟩:=p.foot key (zcr (by simp [zar,ho,hcal]) hxm (by simp [hx,zdn,zc4])) _ hl;rw [hg]at g1;cases g1;have:=(hh g2.2.1.symm).1;rw [g2.2.2.1]at this;exact this
 have hm1:min ww.off xs.length=ww.off:=by omega
 have hm2:min m ys.length=m:=by omega
 refine zaix L.e p ho hcal hargs hT hu hs h1 hx hg hy hm ?_ ?_ hro
 · rw [List.append_assoc];simp only [List.length_append,List.length_take,List.length_drop,hm1,hm2];omega
 · intro i v hi;rw [List.append_assoc,List.getElem?_append]at hi;simp only [List.length_take,hm1]at hi;split at hi
   · rename_i hlt;rw [List.getElem?_take,if_pos hlt]at hi;exact .inr ⟨by omega,hi⟩
   · rename_i hlt;rw [List.getElem?_append]at hi;simp only [List.length_take,hm2]at hi;split at hi
     · rename_i h2;rw [List.getElem?_take,if_pos h2]at hi;exact .inl ⟨i-ww.off,h2,by omega,hi⟩
     · rename_i h2;rw [List.getElem?_drop]at hi;refine .inr ⟨by omega,?_⟩;rw [←hi]
       congr 1
       omega
theorem zabk {t:TypeId} {ps:List (Nat × AV U)} (k:AV U→Option R):zu2 C t ps k=(zu2 C t ps (fun v=>some v)).bind k:=by
 unfold zu2
 split
 · rename_i fs zs _ _;cases(fs.toList.all fun f=>(zbh C f.type).isSome)with
   | false=>rfl
   | true=>
    simp only [cond_true];split<;>rfl
 · split
   · split<;>rfl
   · rfl
 · rfl
theorem z8v {l:List (AV U)} (h:zum l=[]):∀v∈l,zfl v=[]:=by
 induction l with
 | nil=>intro v hv;simp at hv
 | cons a l ih=>
  simp only [zum,List.foldr_cons,List.append_eq_nil_iff]at h;intro v hv;rcases mco hv with rfl|hv
  · exact h.1
  · exact ih h.2 v hv
theorem F2.sc {us l:List Value} (h:F2 (V C.En μ H) (us.map AV.sc) l):l=us:=by
 generalize hq:us.map (AV.sc (U:=U))=q at h
 induction h generalizing us with
 | nil=>simpa using hq.symm
 | cons h1 _ ih=>
  cases us with
  | nil=>simp at hq
  | cons u us=>
   simp only [List.map_cons,List.cons.injEq]at hq;rw [←hq.1]at h1;rw [h1.int,ih hq.2]
theorem zz8 (X:XOK C) (p:Pre C μ H E h a w o) {c:Call} {fo:Operand} {f:FuncId} {caps:List (AV U)} (ho:o.op= .call c) (hc:c.callee= .value fo) (hf:opv C E fo= .fn f caps) {n:Nat} (hx:C.X f=some n) {us:List Value} (hargs:c.args.toList.map (opv C E)++caps=us.map AV.sc) {u:Value} (hu:zzx n us=some u)
 (hv:V C.En μ H v u):zb3 C μ H E h a w o v h:=by
 have hfV:=hf▸p.ops fo (by simp [ho,Op.operands,Call.operands,hc])
 obtain⟨vs,hfe,hcapsF⟩:=zr8 hfV
 have hopsF:F2 (V C.En μ H) (c.args.toList.map (opv C E)) (c.args.map a.eval).toList:=by
  rw [Array.toList_map];refine F2.of_get (by simp) fun i x u h1 h2=> ?_;rw [gem,oma]at h1 h2;obtain⟨x1,e1,rfl⟩:=h1;obtain⟨x2,e2,rfl⟩:=h2;rw [e1]at e2;cases e2;refine p.ops x1 ?_;rw [ho];have:=lma e1;simp [Op.operands,Call.operands,hc,Array.mem_toList_iff.1 this]
 have hall:=hopsF.append hcapsF
 rw [hargs]at hall
 have he:=hall.sc
 refine za0 p (cv:=u) ?_ hv
 rw [z4m ho hc hfe,show c.args.map a.eval++vs=us.toArray by rw [←he];simp]
 exact X f n hx us u hu w
theorem tup2 (x y:Value):V C.En μ H (.tup [.sc x,.sc y]) (.tuple #[x,y]):=by
 refine .tup rfl fun j c hj=> ?_
 match j with
 | 0=>cases hj;exact .sc _
 | 1=>cases hj;exact .sc _
 | j+2=>simp at hj
theorem zwl (L:CLaws C) (O:OOK C) (X:XOK C) {k:AV U→za U→Option R} {r:R} (hc:z2i C E h o k=some r) (hne:zlp C E h o=[]):∃v h',k v h'=some r∧zlm C E h o v h':=by
 have lift:∀{k':AV U→Option R},(k'=fun v=>k v h)→(∃v,k' v=some r∧zlm C E h o v h)→∃v h',k v h'=some r∧zlm C E h o v h':=by
  rintro k' rfl ⟨v,h1,h2⟩
  exact⟨v,h,h1,h2⟩
 unfold z2i at hc
 cases hop:o.op with
 | move x=>
  rw [hop]at hc;refine⟨opv C E x,h,?_,zbi fun μ H a w p _=>zab9 p (.inl hop)⟩;simp only at hc;split at hc
  · cases hc
  · exact hc
 | assign x=>
  rw [hop]at hc;refine⟨opv C E x,h,?_,zbi fun μ H a w p _=>zab9 p (.inr hop)⟩;simp only at hc;split at hc
  · cases hc
  · exact hc
 | pick c x y=>
  rw [hop]at hc;simp only at hc;split at hc
  · rename_i b1 b2 b3 e1 e2 e3;exact⟨_,_,hc,zbi fun μ H a w p _=>zaiv p hop e1 e2 e3⟩
  · cases hc
 | alloc T=>
  rw [hop]at hc;simp only at hc;split at hc
  · rename_i zs hh hz;exact⟨_,_,hc,zbi fun μ H a w p hfr=>zagn L.e p hop hz (zl3 hh hfr) hh⟩
  · cases hc
 | box T x=>
  rw [hop]at hc;simp only at hc;split at hc
  · rename_i hh;cases hp:(opv C E x).plain with
    | false=>rw [hp]at hc;cases hc
    | true=>
     rw [hp]at hc;exact⟨_,_,hc,zbi fun μ H a w p hfr=>zakq L.e p hop hp (zl3 hh hfr) hh⟩
  · cases hc
 | build t parts=>
  rw [hop]at hc;simp only at hc;rw [zabk,oba]at hc;obtain⟨v,h1,hc⟩:=hc;exact⟨v,h,hc,zbi fun μ H a w p _=>zagm p hop h1⟩
 | buildSlice T len parts=>
  rw [hop]at hc;simp only at hc;split at hc
  · cases hc
  · rename_i e hgs;split at hc
    · rename_i t zs e1 hz hh;have hno:∀q∈(parts.toList.map fun p=>(p.1,opv C E p.2)),zfl q.2=[]:=by
       unfold zlp at hne;rw [hop]at hne;simp only at hne;intro q hq;obtain⟨p,hp,rfl⟩:=List.mem_map.1 hq;exact z8v hne _ (List.mem_map.2 ⟨p,hp,rfl⟩)
      cases hb:(zgh (parts.toList.map fun p=>(p.1,opv C E p.2))&&(parts.toList.map fun p=>(p.1,opv C E p.2)).all (fun p=>Nat.ble (p.1+1) len)&&Nat.ble (len*C.En.sz t) (2^24))with
      | false=>rw [hb]at hc;cases hc
      | true=>
       rw [hb]at hc;obtain⟨hb1,hb2⟩:=(baa _ _).mp hb;obtain⟨hb3,hb4⟩:=(baa _ _).mp hb1;have hl:∀q∈(parts.toList.map fun p=>(p.1,opv C E p.2)),q.1<len:=fun q hq=>Nat.le_of_ble_eq_true (lat hb4 q hq);have hbig:=Nat.le_of_ble_eq_true hb2;simp only [cond_true,oba]at hc;obtain⟨xs,hxs,hc⟩:=hc;cases hlit:C.lits.contains (o.dst.getD 0)with
       | false=>
        rw [hlit]at hc;exact⟨_,_,hc,zbi (fun μ H a w p hfr=>z5v L.e p hop (zfn hgs) (L.go _ _ e1).1 hz hb3 hl hbig hno hxs (zl3 hh hfr) hh) ⟨[(_,_)],rfl⟩ (fun hz=>by unfold zj1 at hz;rw [hop]at hz;simp only at hz;rw [hlit]at hz;cases hz) (zy3 hh)⟩
       | true=>
        rw [hlit]at hc;exact⟨_,_,hc,zbi fun μ H a w p _=>zz9 L.e p hop (zfn hgs) (L.go _ _ e1).1 hz hb3 hl hbig hno hxs⟩
    · cases hc
 | load T x=>
  rw [hop]at hc;simp only at hc;rw [zac2,oba]at hc;obtain⟨v,h1,hc⟩:=hc;exact⟨v,h,hc,zbi fun μ H a w p _=>zaiw L p hop h1⟩
 | store T x y=>
  rw [hop]at hc;simp only at hc;obtain⟨h',h1,h2⟩:=zaaf L.e hop hne hc;exact⟨_,h',h1,h2⟩
 | nilCheck x=>
  rw [hop]at hc;simp only at hc;refine⟨opv C E x,h,?_,zbi fun μ H a w p _=>zaal p hop ?_⟩
  · split at hc<;>first|(rename_i e;rw [e];exact hc)|cases hc
  · split at hc<;>first|trivial|(rename_i e;rw [e];trivial)|cases hc
 | binOp op T x y T'=>
  rw [hop]at hc;simp only at hc;exact lift rfl (zafe hop hc)
 | unOp op T x=>
  rw [hop]at hc;simp only at hc;exact lift rfl (zhb (by rw [hop];intro cs b e;cases e) hc)
 | convert src d x=>
  rw [hop]at hc;simp only at hc;split at hc
  · rename_i e v hu1 hu2;split at hc
    · rename_i hu3;rw [oba]at hc;obtain⟨xs,hx,hc⟩:=hc;exact⟨_,_,hc,zbi fun μ H a w p _=>zaeh L.e p hop hu1 hu2 hu3 hx⟩
    · cases hc
  · rename_i e s hu1 hu2 hx;split at hc
    · rename_i hu3 hh;exact⟨_,_,hc,zbi fun μ H a w p hfr=>zagl L.e p hop hu1 hu2 hu3 L.e.u8sz hx (zl3 hh hfr) hh⟩
    · cases hc
  · exact lift rfl (zhb (by rw [hop];intro cs b e;cases e) hc)
 | makeFunc f first caps=>
  rw [hop]at hc;cases f with
  | func f=>
   simp only at hc;split at hc
   · rename_i hf;exact⟨_,_,hc,zbi fun μ H a w p _=>zaam p hop hf⟩
   · cases hc
  | _=>cases hc
 | makeSlice T x y=>
  rw [hop]at hc;simp only at hc;split at hc
  · cases hc
  · rename_i e hgs;split at hc
    · rename_i t zs n m e1 hz hh e2 e3;rw [oba]at hc;obtain⟨z,hre,hc⟩:=hc;split at hc
      · rename_i h0;split at hc
        · rename_i h1;cases hr:zh5 C e m.toNat with
          | false=>rw [hr]at hc;cases hc
          | true=>
           rw [hr]at hc;exact⟨_,_,hc,zbi fun μ H a w p hfr=>z8s L.e p hop (zfn hgs) (L.go _ _ e1).1 hz hre (zl3 hh hfr) hh e2 e3 h0 h1 hr⟩
        · cases hc
      · cases hc
    · cases hc
 | slice T x lo hi mx=>
  rw [hop]at hc;cases mx with
  | none=>
   simp only at hc;cases hnil:zs9 (opv C E x)with
   | true=>
    rw [hnil]at hc;exact lift rfl (zhb (fun cs b e=>by rw [hop]at e;cases e) hc)
   | false=>
    rw [hnil]at hc;exact lift rfl (zaaj hop hc)
  | some m=>
   simp only at hc;cases hnil:zs9 (opv C E x)with
   | true=>
    rw [hnil]at hc;exact lift rfl (zhb (fun cs b e=>by rw [hop]at e;cases e) hc)
   | false=>
    rw [hnil]at hc;exact z8l L hop hc
 | fieldAddr s x f=>
  rw [hop]at hc;simp only at hc;split at hc
  · rename_i n hf;rw [oba]at hc;obtain⟨v,h1,hc⟩:=hc;exact⟨v,h,hc,zbi fun μ H a w p _=>z8t p hop hf h1⟩
  · cases hc
 | field s x f=>
  rw [hop]at hc;simp only at hc;split at hc
  · rename_i n cs fs hf hx hu;split at hc
    · rename_i fd hfd;rw [oba]at hc;obtain⟨v,h1,hc⟩:=hc;exact⟨v,h,hc,zbi fun μ H a w p _=>zagj p hop hf hx hu hfd h1⟩
    · cases hc
  · cases hc
 | indexAddr T x y=>
  rw [hop]at hc;simp only at hc;exact lift rfl (z27 L hop hc)
 | index T x y=>
  rw [hop]at hc;simp only at hc;split at hc
  · rename_i s kd i hu hx hy;rw [oba]at hc;obtain⟨b,hb,hc⟩:=hc;exact⟨_,_,hc,zbi fun μ H a w p _=>zaan p hop hu hx hy hb⟩
  · rename_i n e cs kd i hu hx hy;split at hc
    · rename_i kk hs hag hk;split at hc
      · rename_i l hl;cases hb:Nat.beq l.length n with
        | false=>rw [hb]at hc;cases hc
        | true=>
         rw [hb]at hc;simp only [cond_true]at hc;split at hc
         · rename_i h0;split at hc
           · rename_i h1;exact⟨_,_,hc,zbi fun μ H a w p _=>zaao p hop hu hx hy hs hag hl (Nat.eq_of_beq_eq_true hb) h0 h1⟩
           · cases hc
         · cases hc
      · cases hc
    · cases hc
  · cases hc
 | extract t i=>
  rw [hop]at hc;simp only at hc;split at hc
  · rename_i vs hx;split at hc
    · cases hc
    · rename_i v _ hv;exact⟨_,_,hc,zbi fun μ H a w p _=>zacd p hop hx hv⟩
    · cases hc
  · exact lift rfl (zhb (by rw [hop];intro cs b e;cases e) hc)
  · cases hc
 | call c=>
  rw [hop]at hc;simp only at hc;have hgen:∀cs b,o.op≠ .select cs b:=by rw [hop];intro cs b e;cases e
  cases hcal:c.callee with
  | invoke=>rw [hcal]at hc;cases hc
  | builtin b=>
   rw [hcal]at hc;cases b with
   | len=>
    simp only at hc;split at hc
    · rename_i x T e1 e2;have hT:c.argTypes[0]?=some T:=by
       have:c.argTypes= #[T]:=by apply Array.ext';simpa using e2
       simp [this]
      split at hc
      · rename_i t xs e hx hgs;exact⟨_,_,hc,zbi fun μ H a w p _=>zacb p hop hcal e1 hT (zfn hgs) hx⟩
      · rename_i key ver ww e hx hgs;split at hc
        · rename_i ver' t xs hg;cases hb:Nat.beq ver ver' with
          | false=>rw [hb]at hc;cases hc
          | true=>
           rw [hb]at hc;have:=Nat.eq_of_beq_eq_true hb;subst this;refine⟨.sc (.int .i64 (ww.len xs.length)),h,?_,zbi fun μ H a w p _=>zaca p hop hcal e1 hT (zfn hgs) hx hg⟩;cases ww<;>exact hc
        · cases hc
      · exact lift rfl (zhb hgen hc)
    · cases hc
   | cap=>
    simp only at hc;split at hc
    · rename_i x e1;exact lift rfl (zhb hgen (zrz hc).2)
    · cases hc
   | append=>
    simp only at hc;split at hc
    · rename_i x y T T' e1 e2;split at hc
      · rename_i e' hT';exact z81 L hop hcal e1 e2 hT' hc
      · split at hc
        · rename_i kk hu';exact z8e L hop hcal e1 e2 hu' hc
        · cases hc
    · cases hc
   | clear=>
    simp only at hc;split at hc
    · rename_i x T e1 e2;split at hc
      · rename_i e key ver ww hgs hx;split at hc
        · rename_i ver' t xs zs hg hz;cases hb:(Nat.beq ver ver'&&(zn2 C e t&& !C.ro.contains key))with
          | false=>rw [hb]at hc;cases hc
          | true=>
           rw [hb]at hc;simp only [cond_true,oba]at hc;simp only [baa,Bool.not_eq_true',zca,decide_eq_true_eq]at hb;obtain⟨rfl,hsz,hro⟩:=hb;obtain⟨z,hre,hc⟩:=hc;refine⟨_,_,hc,zabh L hop hcal e1 e2 hgs hx hg hz (znr hsz) hre hro ?_⟩;cases ww with
           | full=>simp [zai.off,zai.len]
           | suf off=>
            simp only [zai.off,zai.len];rw [List.drop_eq_nil_of_le (by omega),List.append_nil]
           | sub off n=>rfl
        · cases hc
      · cases hc
    · cases hc
   | copy=>
    simp only at hc;split at hc
    · rename_i x y T T' e1 e2;split at hc
      · rename_i e e' key ver ww hgs hgs' hx;split at hc
        · rename_i ver' t xs hg;cases hb:(Nat.beq ver ver'&&(zn2 C e t&&(Nat.beq (C.En.sz t) 1&& !C.ro.contains key)))with
          | false=>rw [hb]at hc;cases hc
          | true=>
           rw [hb]at hc;simp only [cond_true,oba]at hc;simp only [baa,Bool.not_eq_true',zca,decide_eq_true_eq]at hb;obtain⟨rfl,hsz,h1,hro⟩:=hb;obtain⟨ys,hy,hc⟩:=hc;refine⟨_,_,hc,zadh L hop hcal e1 e2 hgs hx hg (znr hsz) h1 hy hro rfl ?_⟩;cases ww with
           | full=>simp [zai.off,zai.len]
           | suf off=>rfl
           | sub off n=>rfl
        · cases hc
      · cases hc
    · cases hc
   | min=>exact lift rfl (zhb hgen hc)
   | max=>exact lift rfl (zhb hgen hc)
   | _=>cases hc
  | value fo=>
   rw [hcal]at hc;simp only at hc;split at hc
   · rename_i f caps hf;split at hc
     · rename_i x y z hX hargs;split at hc
       · cases hc
       · rename_i hz;exact⟨_,_,hc,zbi fun μ H a w p _=>zz8 (us:=[.int .u64 x,.int .u64 y,.int .u64 z]) (u:= .tuple #[_,_]) X p hop hcal hf hX hargs (by simp only [zzx];rw [if_neg hz]) (tup2 _ _)⟩
     · rename_i x y z hX hargs;split at hc
       · cases hc
       · rename_i hz;exact⟨_,_,hc,zbi fun μ H a w p _=>zz8 (us:=[.int .u64 x,.int .u64 y,.int .u64 z]) (u:= .tuple #[_,_]) X p hop hcal hf hX hargs (by simp only [zzx];rw [if_neg hz]) (tup2 _ _)⟩
     · rename_i x y hX hargs;exact⟨_,_,hc,zbi fun μ H a w p _=>zz8 (us:=[.string x,.string y]) X p hop hcal hf hX hargs rfl (.sc _)⟩
     · exact zadm L.e O hop hcal hf rfl hc
   · cases hc
 | _=>rw [hop]at hc;cases hc
end
section
variable {U:Uni} {C:Ctx U} {μ:Mp} {H:Fz} {E:List (AV U)} {h h':za U} {a:Act} {w:World} {o:Oper} {v:AV U} {R:Type}
structure St (C:Ctx U) (μ:Mp) (H:Fz) (E:List (AV U)) (h:za U) (a:Act) (w:World):Prop where
 env:∀t,V C.En μ H (E.getD t .dead) (a.eval (.tmp t))
 size:E.length=a.tmps.size
 sim:Sim C.En μ H h w
 glob:GOK C H w
 defers:a.defers=[]
theorem zwd {x:Operand} (henv:∀t,x= .tmp t→V C.En μ H (E.getD t .dead) (a.eval (.tmp t))) (hg:GOK C H w):V C.En μ H (opv C E x) (a.eval x):=by
 cases x with
 | tmp t=>exact henv t rfl
 | const v=>exact .sc v
 | global g=>
  simp only [opv];cases hq:C.G g with
  | none=>exact .dead _
  | some av=>exact(hg.val g av hq).2 μ
 | func f=>exact .fn rfl fun j c hj=>by simp at hj
theorem St.pre (s:St C μ H E h a w) (o:Oper):Pre C μ H E h a w o where
 ops:=fun x _=>zwd (fun t _=>s.env t) s.glob
 mem:=s.sim.toMem
 foot:=fun k _ l hl=>s.sim.obj k l hl
 glob:=s.glob
theorem After.sim (L:ELaws C.En) {F:Nat→Prop} {h':za U} {μ':Mp} {H':Fz} {w':World} (s:Sim C.En μ H h w) (A:After C F μ H h w h' μ' H' w'):Sim C.En μ' H' h' w' where
 toMem:=A.mem
 obj:=fun k l' hl=>by
  by_cases hc:F k∨(zc h k=none∧zc h' k≠none)
  · exact A.objs k l' hc hl
  · obtain⟨e1,e2⟩:=A.same k (fun hh=>hc (.inl hh)) (fun hh=>hc (.inr hh));rw [e1]at hl;obtain⟨ob,g1,g2⟩:=s.obj k l' hl;refine⟨ob,by rw [e2];exact g1,g2.keep L A.wd A.leH A.leM fun b o hh ⟨k2,l2,f1,f2,f3⟩=> ?_⟩;have:=s.apart _ _ _ _ _ _ hl f2 hh f3;subst this;exact hc (.inl f1)
theorem zic (E:List (AV U)) (d:Option Tmp) (v:AV U) (t:Nat):(zd0 E d v).getD t .dead=if d=some t∧t<E.length then v else E.getD t .dead:=by
 cases d with
 | none=>simp [zd0]
 | some d=>
  simp only [zd0,gda,List.getElem?_set]
  by_cases e:d=t
  · subst e
    by_cases hl:d<E.length
    · simp [hl]
    · simp [hl]
  · simp [e]
theorem z0w (a:Act) (d:Option Tmp) (cv:Value) (t:Nat):(a.put d cv).eval (.tmp t)=if d=some t∧t<a.tmps.size then cv else a.eval (.tmp t):=by
 cases d with
 | none=>simp [Act.put]
 | some d=>
  simp only [Act.put,Act.eval]
  by_cases e:d=t
  · subst e
    by_cases hl:d<a.tmps.size
    · simp [hl]
    · simp [hl]
  · simp [e]
theorem zgy (E:List (AV U)) (d:Option Tmp) (v:AV U):(zd0 E d v).length=E.length:=by cases d<;>simp [zd0]
theorem zvi (a:Act) (d:Option Tmp) (v:Value):(a.put d v).tmps.size=a.tmps.size:=by cases d<;>simp [Act.put]
theorem St.after (L:ELaws C.En) (s:St C μ H E h a w) {F:Nat→Prop} {h':za U} {μ':Mp} {H':Fz} {w':World} (A:After C F μ H h w h' μ' H' w') {d:Option Tmp} {cv:Value} (hV:V C.En μ' H' v cv):St C μ' H' (zd0 E d v) h' (a.put d cv) w' where
 env:=fun t=>by
  rw [zic,z0w,s.size];split
  · exact hV
  · exact(s.env t).mono A.leH A.leM
 size:=by rw [zgy,zvi,s.size]
 sim:=A.sim L s.sim
 glob:=(s.glob.mono A.leH).step A.wd
 defers:=by cases d<;>exact s.defers
end
section
variable {U:Uni} {C:Ctx U} {μ:Mp} {H:Fz} {E:List (AV U)} {h h':za U} {a:Act} {w:World} {o:Oper} {v:AV U} {R:Type}
theorem zwc:∀(h:za U) (k k':Nat),zc (zqt h k) k'=if k'=k then none else zc h k'
 | [],k,k'=>by simp [zqt,zc]
 | (q,ob)::h,k,k'=>by
  simp only [zqt,zca]
  by_cases e:k=q
  · subst e;simp only [decide_true,cond_true,zwc h k k',zc,zca]
    by_cases e2:k'=k<;>simp [e2]
  · simp only [e,decide_false,cond_false,zc,zca,zwc h k k']
    by_cases e2:k'=q
    · subst e2;have e3:¬k'=k:=fun x=>e x.symm;simp [e3]
    · simp [e2]
theorem z6w (f:Ob U→Ob U):∀(h:za U) (k:Nat),zc (h.map fun p=>(p.1,f p.2)) k=(zc h k).map f
 | [],k=>rfl
 | (q,ob)::h,k=>by
  simp only [List.map_cons,zc,zca,z6w f h k]
  by_cases e:k=q<;>simp [e]
def Mp.without (μ:Mp) (k:Nat):Mp:=fun k'=>if k'=k then none else μ k'
theorem z6x (L:ELaws C.En) (hm:Mem μ H w) {k ver:Nat} {t:U.Ty} {xs:List (U.den t)} (hg:zc h k=some (.arr ver t xs)) (hkn:zmj C μ H h w k):∀(n:Nat) (c:AV U) (u:Value),V C.En μ H c u→V C.En (μ.without k) (zcp μ H w [k]) (zio k ver t xs n c) u:=by
 have hnb:∀l,μ k=some l→l.box=false:=fun l hl=>by
  obtain⟨ob,g1,g2⟩:=hkn l hl;rw [hg]at g1;cases g1;exact g2.1
 have hle:=zgl hm [k]
 have hoth:∀k' l,μ k'=some l→k'≠k→(μ.without k) k'=some l:=fun k' l hl hne=>by simp [Mp.without,hne,hl]
 have leaf:∀(c:AV U) (u:Value),V C.En μ H c u→(match c with| .agg _| .fn _ _| .tup _=>True|_=>V C.En (μ.without k) (zcp μ H w [k]) (zio k ver t xs 0 c) u):=by
  intro c u hV;have hV':=hV;cases hV with
  | sc=>exact .sc _
  | dead=>exact .dead _
  | ptr hl hb ha=>
   rename_i k' off l b o';have hne:k'≠k:=fun e=>by subst e;have:=hnb _ hl;rw [hb]at this;cases this
   exact .ptr (hoth _ _ hl hne) hb ha
  | ixp hl hb ha hi=>
   rename_i k' off n i l b o';have hne:k'≠k:=fun e=>by subst e;have:=hnb _ hl;rw [hb]at this;cases this
   exact .ixp (hoth _ _ hl hne) hb ha hi
  | eptr hl hb hv hp hh=>
   rename_i k' ver' i off l;simp only [zio,zca]
   by_cases e:k=k'
   · simp only [e,decide_true,cond_true];exact .dead _
   · simp only [e,decide_false,cond_false];exact .eptr (hoth _ _ hl (fun x=>e x.symm)) hb hv hp hh
  | own hl hb hv hp hh=>
   rename_i k' ver' ww l;simp only [zio,zca]
   by_cases e:k=k'
   · subst e;simp only [decide_true,cond_true]
     by_cases e2:ver=ver'
     · subst e2;simp only [decide_true,cond_true];exact z0r L hm (by simp) hkn hg hV' _
     · simp only [e2,decide_false,cond_false];exact .dead _
   · simp only [e,decide_false,cond_false];exact .own (hoth _ _ hl (fun x=>e x.symm)) hb hv hp hh
  | rptr hf g h1 h2=>exact(hV'.mono hle (Mp.le_refl _)).shift L _ trivial
  | rarr g h1 h2=>exact(hV'.mono hle (Mp.le_refl _)).shift L _ trivial
  | lst hn hcap ha g h1 h2=>exact(hV'.mono hle (Mp.le_refl _)).shift L _ trivial
  | fn=>trivial
  | agg=>trivial
  | tup=>trivial
 have eq0:∀(n:Nat) (c:AV U),(match c with| .agg _| .fn _ _| .tup _=>False|_=>True)→zio k ver t xs n c=zio k ver t xs 0 c:=by
  intro n c hc;cases c<;>first|exact hc.elim|(cases n<;>rfl)
 intro n
 induction n with
 | zero=>
  intro c u hV;have:=leaf c u hV;cases c<;>first|exact this|exact .dead _
 | succ n ih=>
  intro c u hV;have hl:=leaf c u hV;have step:∀(cs:List (AV U)) (vs:Array Value),(∀(j:Nat) c,cs[j]?=some c→V C.En μ H c (vs.getD j undef))→∀(j:Nat) c,(cs.map (zio k ver t xs n))[j]?=some c→V C.En (μ.without k) (zcp μ H w [k]) c (vs.getD j undef):=by
   intro cs vs hh j c hj;rw [gem,oma]at hj;obtain⟨c',hc',rfl⟩:=hj;exact ih c' _ (hh j c' hc')
  cases c with
  | agg cs=>cases hV with|agg hn hv=>exact .agg (by simpa using hn) (step _ _ hv)
  | fn f cs=>cases hV with|fn hn hv=>exact .fn (by simpa using hn) (step _ _ hv)
  | tup cs=>cases hV with|tup hn hv=>exact .tup (by simpa using hn) (step _ _ hv)
  | _=>rw [eq0 (n+1) _ trivial];exact hl
theorem zaa8 (L:ELaws C.En) (hm:Mem μ H w) {k ver:Nat} {t:U.Ty} {xs:List (U.den t)} (hg:zc h k=some (.arr ver t xs)) (hkn:zmj C μ H h w k) {l:Loc} {ob:Ob U} (ho:zcl C.En μ H w l ob):zcl C.En (μ.without k) (zcp μ H w [k]) w l (zwf k ver t xs ob):=by
 cases ob with
 | box cs=>
  obtain⟨h1,h2,b,o',h3,h4,h5⟩:=ho;refine⟨h1,h2,b,o',h3,by simpa using h4,fun j c hj=> ?_⟩;rw [gem,oma]at hj;obtain⟨c',hc',rfl⟩:=hj;obtain⟨u,r1,r2,r3⟩:=h5 j c' hc';exact⟨u,r1,r2,z6x L hm hg hkn 2 c' u r3⟩
 | arr ver' t' xs'=>
  obtain⟨h1,h2,h3,h4,h5⟩:=ho;refine⟨h1,h2,h3,h4,?_⟩;cases ha:l.at_ with
  | none=>simpa only [ha]using h5
  | some q=>
   obtain⟨b,o'⟩:=q;simp only [ha]at h5⊢;obtain⟨h6,h7,h8⟩:=h5;refine⟨h6,h7,fun i x hi j c hj=> ?_⟩;obtain⟨cv,r1,r2⟩:=h8 i x hi j c hj;exact⟨cv,r1,(r2.mono (zgl hm [k]) (Mp.le_refl _)).shift L _ (L.fz _ _ _ (lma hj)).fza⟩
theorem St.give1 (L:ELaws C.En) (s:St C μ H E h a w) {k ver:Nat} {t:U.Ty} {xs:List (U.den t)} (hg:zc h k=some (.arr ver t xs)):
 St C (μ.without k) (zcp μ H w [k]) (E.map (zio k ver t xs 3)) ((zqt h k).map fun p=>(p.1,zwf k ver t xs p.2)) a w:=by
 have hm:=s.sim.toMem
 have hkn:zmj C μ H h w k:=fun l hl=>s.sim.obj k l hl
 have hsub:∀k' l,(μ.without k) k'=some l→μ k'=some l∧k'≠k:=fun k' l hl=>by
  unfold Mp.without at hl;split at hl
  · cases hl
  · rename_i e;exact⟨hl,e⟩
 refine {
  env:=fun t'=> ?_
  size:=by rw [List.length_map];exact s.size
  sim:={frz:=zsl hm [k],apart:= ?_,free:= ?_,inside:= ?_,obj:= ?_}
  glob:=s.glob.mono (zgl hm [k])
  defers:=s.defers}
 · rw [gda,gem];have:=s.env t';rw [gda]at this;cases hq:E[t']? with
   | none=>exact .dead _
   | some c=>
    rw [hq]at this;exact z6x L hm hg hkn 3 c _ this
 · intro k1 k2 l1 l2 b o' h1 h2 g1 g2;exact hm.apart _ _ _ _ _ _ (hsub _ _ h1).1 (hsub _ _ h2).1 g1 g2
 · intro k1 l1 b o' h1 g1;exact zq9 hm (fun k' hk' e=>(hsub _ _ h1).2 (by simp at hk';rw [←e,hk'])) (hsub _ _ h1).1 g1
 · intro k1 l1 b o' h1 g1;exact hm.inside _ _ _ _ (hsub _ _ h1).1 g1
 · intro k1 l1 h1;obtain⟨g1,g2⟩:=hsub _ _ h1;obtain⟨ob,r1,r2⟩:=s.sim.obj k1 l1 g1;refine⟨zwf k ver t xs ob,?_,zaa8 L hm hg hkn r2⟩;rw [z6w,zwc,if_neg g2,r1];rfl
structure zr4 (μ:Mp) (H:Fz) (μ':Mp) (H':Fz):Prop where
 le:H.le H'
 sub:∀k l,μ' k=some l→μ k=some l
 frz:∀b o,H' b o≠none→H b o≠none∨∃k l,μ k=some l∧l.box=false∧l.holds b o
 box:∀k l,μ k=some l→l.box=true→μ' k=some l
theorem zr4.refl (μ:Mp) (H:Fz):zr4 μ H μ H:=⟨H.le_refl,fun _ _ h=>h,fun _ _ h=> .inl h,fun _ _ h _=>h⟩
theorem zr4.trans {μ μ' μ'':Mp} {H H' H'':Fz} (h:zr4 μ H μ' H') (h':zr4 μ' H' μ'' H''):zr4 μ H μ'' H'' where
 le:=Fz.le_trans h.le h'.le
 sub:=fun k l hl=>h.sub k l (h'.sub k l hl)
 frz:=fun b o hb=>by
  rcases h'.frz b o hb with h1|⟨k,l,h1,h2⟩
  · exact h.frz b o h1
  · exact .inr ⟨k,l,h.sub k l h1,h2⟩
 box:=fun k l hl hb=>h'.box k l (h.box k l hl hb) hb
theorem St.give (L:ELaws C.En):∀(ks:List Nat) {μ:Mp} {H:Fz} {E:List (AV U)} {h:za U},St C μ H E h a w→∃μ' H',zr4 μ H μ' H'∧St C μ' H' (zfo ks E h).1 (zfo ks E h).2 a w
 | [],μ,H,E,h,s=>⟨μ,H,.refl μ H,s⟩
 | k::ks,μ,H,E,h,s=>by
  unfold zfo;split
  · rename_i ver t xs hg;obtain⟨μ',H',h1,h2⟩:=St.give L ks (s.give1 L hg);refine⟨μ',H',zr4.trans ⟨zgl s.sim.toMem [k],fun k' l hl=> ?_,fun b o' hb=> ?_,fun k' l hl hb=> ?_⟩ h1,h2⟩
    · unfold Mp.without at hl;split at hl
      · cases hl
      · exact hl
    · unfold zcp at hb;split at hb
      · rename_i hx;obtain⟨k',l,h3,h4,h5⟩:=hx;simp at h3;subst h3;obtain⟨ob,g1,g2⟩:=s.sim.obj k' l h4;rw [hg]at g1;cases g1;exact .inr ⟨k',l,h4,g2.1,h5⟩
      · exact .inl hb
    · unfold Mp.without;rw [if_neg]
      · exact hl
      · intro e;subst e;obtain⟨ob,g1,g2⟩:=s.sim.obj k' l hl;rw [hg]at g1;cases g1;rw [g2.1]at hb;cases hb
  · exact St.give L ks s
end
section
variable {U:Uni} {C:Ctx U} {μ:Mp} {H:Fz} {E:List (AV U)} {h h':za U} {a:Act} {w:World} {o:Oper} {v:AV U} {R:Type}
structure zfb (ro:List Nat) (μ0:Mp) (H0:Fz) (w0:World) (μ:Mp) (H:Fz) (w:World):Prop where
 robox:∀k l,ro.contains k=true→μ0 k=some l→l.box=true
 le:H0.le H
 box:∀k l,μ0 k=some l→l.box=true→μ k=some l
 wd:Wd (zit μ0 ro) w0 w
 frz:∀b o,H b o≠none→H0 b o≠none∨w0.heap.size≤b∨∃k l,μ0 k=some l∧ro.contains k=false∧l.box=false∧l.holds b o
 loc:∀k l b o,μ k=some l→l.holds b o→w0.heap.size≤b∨∃k0 l0,μ0 k0=some l0∧l0.holds b o
theorem zfb.first {ro:List Nat} (hr:∀k l,ro.contains k=true→μ k=some l→l.box=true):zfb ro μ H w μ H w where
 robox:=hr
 le:=H.le_refl
 box:=fun k l h _=>h
 wd:=Wd.refl _ w
 frz:=fun b o hb=> .inl hb
 loc:=fun k l b o h1 h2=> .inr ⟨k,l,h1,h2⟩
variable {ro:List Nat} {μ0:Mp} {H0:Fz} {w0:World}
theorem zfb.arr (S:zfb ro μ0 H0 w0 μ H w) (hm:Mem μ H w) {k:Nat} {l:Loc} (hl:μ k=some l) (hb:l.box=false) {b o:Nat} (hh:l.holds b o):
 w0.heap.size≤b∨∃k0 l0,μ0 k0=some l0∧ro.contains k0=false∧l0.box=false∧l0.holds b o:=by
 rcases S.loc k l b o hl hh with h1|⟨k0,l0,h1,h2⟩
 · exact .inl h1
 · cases hb0:l0.box with
   | true=>
    have h3:=S.box k0 l0 h1 hb0;have:=hm.apart _ _ _ _ _ _ hl h3 hh h2;subst this;rw [hl]at h3;cases h3;rw [hb]at hb0;cases hb0
   | false=>
    refine .inr ⟨k0,l0,h1,?_,hb0,h2⟩;cases hr:ro.contains k0 with
    | false=>rfl
    | true=>rw [S.robox k0 l0 hr h1]at hb0;cases hb0
theorem zfb.opn (S:zfb ro μ0 H0 w0 μ H w) (hm:Mem μ H w) {k:Nat} {l:Loc} (hl:μ k=some l) (hr:ro.contains k=false) {b o:Nat} (hh:l.holds b o):w0.heap.size≤b∨zit μ0 ro b o:=by
 rcases S.loc k l b o hl hh with h1|⟨k0,l0,h1,h2⟩
 · exact .inl h1
 · cases hb0:l0.box with
   | true=>
    have h3:=S.box k0 l0 h1 hb0;have:=hm.apart _ _ _ _ _ _ hl h3 hh h2;subst this;exact .inr ⟨k,l0,h1,hr,h2⟩
   | false=>
    refine .inr ⟨k0,l0,h1,?_,h2⟩;cases hr0:ro.contains k0 with
    | false=>rfl
    | true=>rw [S.robox k0 l0 hr0 h1]at hb0;cases hb0
theorem zfb.wdStep (S:zfb ro μ0 H0 w0 μ H w) {P:Nat→Nat→Prop} {w':World} (hw:Wd P w w') (hp:∀b o,P b o→w0.heap.size≤b∨zit μ0 ro b o):Wd (zit μ0 ro) w0 w':=by
 have h1:Wd (fun b o=>w0.heap.size≤b∨zit μ0 ro b o) w0 w:=S.wd.weaken fun b o _ hh=> .inr hh
 have h2:Wd (fun b o=>w0.heap.size≤b∨zit μ0 ro b o) w w':=hw.weaken fun b o _ hh=>hp b o hh
 exact(h1.trans h2).weaken fun b o hb hh=>by
  rcases hh with hh|hh
  · omega
  · exact hh
theorem zfb.after (S:zfb ro μ0 H0 w0 μ H w) (hm:Mem μ H w) {F:Nat→Prop} (hF:∀k,F k→ro.contains k=false) {h':za U} {μ':Mp} {H':Fz} {w':World} (A:After C F μ H h w h' μ' H' w'):zfb ro μ0 H0 w0 μ' H' w' where
 robox:=S.robox
 le:=Fz.le_trans S.le A.leH
 box:=fun k l h1 h2=>by
  obtain⟨l',e1,e2⟩:=A.leM k l (S.box k l h1 h2);rcases e2 with rfl|⟨e2,_⟩
  · exact e1
  · rw [h2]at e2;cases e2
 wd:=S.wdStep A.wd fun b o ⟨k,l,h1,h2,h3⟩=>S.opn hm h2 (hF k h1) h3
 frz:=fun b o hb=>by
  rcases A.frzNew b o hb with h1|h1|⟨k,l,h1,h2,h3⟩
  · exact S.frz b o h1
  · exact .inr (.inl (Nat.le_trans S.wd.size h1))
  · cases hlb:l.box with
    | false=>exact .inr (S.arr hm h2 hlb h3)
    | true=>
     obtain⟨l',e1,e2⟩:=A.leM k l h2;rcases e2 with rfl|⟨e2,_⟩
     · exact absurd (A.mem.free _ _ _ _ e1 h3) hb
     · rw [hlb]at e2;cases e2
 loc:=fun k l b o h1 h2=>by
  rcases A.locNew k l b o h1 h2 with⟨l0,h3,h4⟩|h3|⟨k0,l0,_,h3,h4⟩
  · exact S.loc k l0 b o h3 h4
  · exact .inl (Nat.le_trans S.wd.size h3)
  · exact S.loc k0 l0 b o h3 h4
theorem zfb.froze (S:zfb ro μ0 H0 w0 μ H w) (hm:Mem μ H w) {μ':Mp} {H':Fz} (A:zr4 μ H μ' H'):zfb ro μ0 H0 w0 μ' H' w where
 robox:=S.robox
 le:=Fz.le_trans S.le A.le
 box:=fun k l h1 h2=>A.box k l (S.box k l h1 h2) h2
 wd:=S.wd
 frz:=fun b o hb=>by
  rcases A.frz b o hb with h1|⟨k,l,h1,h2,h3⟩
  · exact S.frz b o h1
  · exact .inr (S.arr hm h1 h2 h3)
 loc:=fun k l b o h1 h2=>S.loc k l b o (A.sub k l h1) h2
theorem zfb.still (S:zfb ro μ0 H0 w0 μ H w) {w':World} (hw:Wd (fun _ _=>False) w w'):zfb ro μ0 H0 w0 μ H w' where
 robox:=S.robox
 le:=S.le
 box:=S.box
 wd:=S.wdStep hw fun b o hh=>hh.elim
 frz:=S.frz
 loc:=S.loc
def Cov (C:Ctx U) (all:Array Oper) (row:Row) (o:Oper) (E:List (AV U)) (h:za U):Prop:=
 row.dst=zmw o∧row.look=zlj all o∧row.cls=zar C o∧(row.top=true∨∀k∈zby C E h o,k∈row.keys)
inductive Run (C:Ctx U) (all:Array Oper) (s:Bool):List Oper→List Row→List (AV U)→za U→List (AV U)→za U→Prop
 | nil {E0:List (AV U)} {h0:za U}:Run C all s [] [] E0 h0 E0 h0
 | go {o0:Oper} {l:List Oper} {row:Row} {rows:List Row} {E0:List (AV U)} {h0:za U} {v0:AV U} {h1:za U} {E':List (AV U)} {h':za U}:
  (∀g want,o0.guard=some (g,want)→∃d,(all[g]?).bind (·.dst)=some d∧E0.getD d .dead= .sc (.bool want))→zlm C E0 h0 o0 v0 h1→Cov C all row o0 E0 h0→
  (s=true→∀k∈zby C E0 h0 o0,zc h0 k≠none)→Run C all s l rows (zd0 E0 o0.dst v0) h1 E' h'→Run C all s (o0::l) (row::rows) E0 h0 E' h'
 | skip {o0:Oper} {l:List Oper} {row:Row} {rows:List Row} {E0:List (AV U)} {h0:za U} {E':List (AV U)} {h':za U} {g:Nat} {want:Bool} {d:Nat}:o0.guard=some (g,want)→(all[g]?).bind (·.dst)=some d→((∃u,E0.getD d .dead= .sc u∧u≠ .bool want)∨E0.length≤d)→
  row.dst=zmw o0→row.look=zlj all o0→Run C all s l rows (zd0 E0 o0.dst (.sc undef)) h0 E' h'→Run C all s (o0::l) (row::rows) E0 h0 E' h'
 | weak {l:List Oper} {rows:List Row} {E0:List (AV U)} {h0:za U} {E1 E':List (AV U)} {h':za U}:E1.length=E0.length→(∀t,E1.getD t .dead=E0.getD t .dead∨E1.getD t .dead= .dead)→Run C all s l rows E1 h0 E' h'→Run C all s l rows E0 h0 E' h'
 | give {l:List Oper} {rows:List Row} {ks:List Nat} {E0:List (AV U)} {h0:za U} {E':List (AV U)} {h':za U}:s=false→Run C all s l rows (zfo ks E0 h0).1 (zfo ks E0 h0).2 E' h'→Run C all s l rows E0 h0 E' h'
theorem z94 (s:St C μ H E h a w) {all:Array Oper} {g d:Nat} {b:Bool} (h1:(all[g]?).bind (·.dst)=some d) (h2:E.getD d .dead= .sc (.bool b)):yielded all a.tmps g=some b:=by
 have hv:=(h2▸s.env d).int
 simp only [Act.eval]at hv
 unfold yielded
 rw [h1]
 simp only [obz]
 have:a.tmps[d]?=some (.bool b):=by
  rw [agd]at hv;cases hq:a.tmps[d]? with
  | none=>rw [hq]at hv;cases hv
  | some x=>rw [hq]at hv;simp at hv;rw [hv]
 rw [this]
theorem z8i {all:Array Oper} (s:St C μ H E h a w) (hg:∀g want,o.guard=some (g,want)→∃d,(all[g]?).bind (·.dst)=some d∧E.getD d .dead= .sc (.bool want)):Region.wanted o (yielded all a.tmps)=true:=by
 unfold Region.wanted
 cases hq:o.guard with
 | none=>rfl
 | some p=>
  obtain⟨g,want⟩:=p;obtain⟨d,h1,h2⟩:=hg g want hq;simp [z94 s h1 h2]
theorem z48 {all:Array Oper} (s:St C μ H E h a w) {g d:Nat} {want:Bool} (hg:o.guard=some (g,want)) (h1:(all[g]?).bind (·.dst)=some d) (h2:(∃u,E.getD d .dead= .sc u∧u≠ .bool want)∨E.length≤d):Region.wanted o (yielded all a.tmps)=false:=by
 have key:yielded all a.tmps g≠some want:=by
  unfold yielded;rw [h1];simp only [obz];rcases h2 with⟨u,h2,h3⟩|h2
  · have hv:=(h2▸s.env d).int;simp only [Act.eval]at hv;rw [agd]at hv;cases hq:a.tmps[d]? with
    | none=>simp
    | some x=>
     rw [hq]at hv;simp at hv;subst hv;split
     · rename_i b e;cases e;intro hh;cases hh;exact h3 rfl
     · simp
  · rw [s.size]at h2;rw [Array.getElem?_eq_none h2];simp
 unfold Region.wanted
 rw [hg]
 simpa using key
theorem St.weak (s:St C μ H E h a w) {E1:List (AV U)} (hl:E1.length=E.length) (hw:∀t,E1.getD t .dead=E.getD t .dead∨E1.getD t .dead= .dead):St C μ H E1 h a w where
 env:=fun t=>by
  rcases hw t with e|e
  · rw [e];exact s.env t
  · rw [e];exact .dead _
 size:=hl.trans s.size
 sim:=s.sim
 glob:=s.glob
 defers:=s.defers
theorem St.go (L:ELaws C.En) (s:St C μ H E h a w) (S:zfb C.ro μ0 H0 w0 μ H w) {v:AV U} {h1:za U} (g:zlm C E h o v h1) {next:Act→World→Prop} {Q:Exit→Act→World→Prop}
 (hn:∀μ' H' a' w',St C μ' H' (zd0 E o.dst v) h1 a' w'→zfb C.ro μ0 H0 w0 μ' H' w'→next a' w'):o.wp C.P a w next Q:=by
 refine g.2.1 μ H a w (s.pre o) (fun k hk _=> ?_) next Q fun cv μ' H' w' hV A=>hn μ' H' _ w' (s.after L A hV) (S.after s.sim.toMem (fun k hk=>hk.2.2) A)
 cases hq:μ k with
 | none=>rfl
 | some l=>
  obtain⟨ob,h2,_⟩:=s.sim.obj k l hq;rw [hk]at h2;cases h2
theorem zacm (L:ELaws C.En) (s:St C μ H E h a w) (d:Option Tmp):St C μ H (zd0 E d (.sc undef)) h (a.put d undef) w where
 env:=fun t=>by
  rw [zic,z0w,s.size];split
  · exact .sc _
  · exact s.env t
 size:=by rw [zgy,zvi,s.size]
 sim:=s.sim
 glob:=s.glob
 defers:=by cases d<;>exact s.defers
theorem Run.sound (L:ELaws C.En) {all:Array Oper} {b:Bool} {l:List Oper} {rows:List Row} {E0:List (AV U)} {h0:za U} {E':List (AV U)} {h':za U} (r:Run C all b l rows E0 h0 E' h'):∀{μ:Mp} {H:Fz} {a:Act} {w:World},St C μ H E0 h0 a w→zfb C.ro μ0 H0 w0 μ H w→
 ∀{Q:Exit→Act→World→Prop},(∀μ' H' a' w',St C μ' H' E' h' a' w'→zfb C.ro μ0 H0 w0 μ' H' w'→Q .normal a' w')→wpList C.P all Q l a w:=by
 induction r with
 | nil=>intro μ H a w s S Q hq;exact hq μ H a w s S
 | go hg g _ _ _ ih=>
  intro μ H a w s S Q hq;rw [wpList,if_pos (z8i s hg)];exact .inl (s.go L S g fun μ' H' a' w' s' S'=>ih s' S' hq)
 | skip h1 h2 h3 _ _ _ ih=>
  intro μ H a w s S Q hq;rw [wpList,if_neg (by rw [z48 s h1 h2 h3];simp)];exact ih (zacm L s _) S hq
 | weak h1 h2 _ ih=>
  intro μ H a w s S Q hq;exact ih (s.weak h1 h2) S hq
 | give _ _ ih=>
  intro μ H a w s S Q hq;obtain⟨μ',H',f,s'⟩:=s.give L _;exact ih s' (S.froze s.sim.toMem f) hq
end
section
variable {U:Uni} {C:Ctx U} {μ:Mp} {H:Fz} {E:List (AV U)} {h h':za U} {a:Act} {w:World} {o:Oper} {v:AV U} {R:Type}
theorem ztb {t:Nat} {u:Value}:∀(ks:List Nat) (E:List (AV U)) (h:za U),E.getD t .dead= .sc u→(zfo ks E h).1.getD t .dead= .sc u
 | [],E,h,he=>he
 | k::ks,E,h,he=>by
  unfold zfo;split
  · refine ztb ks _ _ ?_;rw [gda]at he⊢;rw [gem];cases hq:E[t]? with
    | none=>rw [hq]at he;cases he
    | some c=>rw [hq]at he;simp at he;subst he;rfl
  · exact ztb ks _ _ he
theorem zoi:∀(ks:List Nat) (E:List (AV U)) (h:za U),(zfo ks E h).1.length=E.length
 | [],E,h=>rfl
 | k::ks,E,h=>by
  unfold zfo;split
  · rw [zoi ks];simp
  · exact zoi ks _ _
theorem z5j (L:CLaws C) (O:OOK C) (X:XOK C) {strict:Bool} {kk:K1 U R} {r:R} (hc:z1c C strict E h o kk=some r):
 ∃E1 h1 v h2,(strict=true→E1=E∧h1=h)∧(strict=false→∃ks,zfo ks E h=(E1,h1))∧zlm C E1 h1 o v h2∧kk v E1 h2=some r:=by
 unfold z1c at hc
 cases strict with
 | true=>
  simp only [cond_true]at hc;cases hn:(zlp C E h o).isEmpty with
  | false=>rw [hn]at hc;cases hc
  | true=>
   rw [hn]at hc;simp only [cond_true]at hc;obtain⟨v,h',h1,h2⟩:=zwl L O X hc (by simpa using hn);exact⟨E,h,v,h',fun _=>⟨rfl,rfl⟩,(fun e=>by cases e),h2,h1⟩
 | false=>
  simp only [cond_false]at hc;cases hn:(zlp C (zfo (zlp C E h o) E h).1 (zfo (zlp C E h o) E h).2 o).isEmpty with
  | false=>rw [hn]at hc;cases hc
  | true=>
   rw [hn]at hc;simp only [cond_true]at hc;obtain⟨v,h',h1,h2⟩:=zwl L O X hc (by simpa using hn);exact⟨_,_,v,h',(fun e=>by cases e),fun _=>⟨_,rfl⟩,h2,h1⟩
theorem zpz {d:Tmp}:∀{l:List Oper} {grp:List Oper} {p:Oper} {x y:Operand} {rest:List Oper},zoy d l=some (grp,p,x,y,rest)→l=grp++p::rest∧p.op= .pick (.tmp d) x y
 | [],_,_,_,_,_,h=>by cases h
 | o::l,grp,p,x,y,rest,h=>by
  have key:∀{g:Option (List Oper × Oper × Operand × Operand × List Oper)},g=(zoy d l).map (fun r=>(o::r.1,r.2))→g=some (grp,p,x,y,rest)→o::l=grp++p::rest∧p.op= .pick (.tmp d) x y:=by
   intro g hg h;rw [hg,oma]at h;obtain⟨⟨g1,p1,x1,y1,r1⟩,h1,h2⟩:=h;cases h2;obtain⟨e1,e2⟩:=zpz h1;exact⟨by rw [e1];rfl,e2⟩
  unfold zoy at h;split at h
  · rename_i d' x' y' hop;cases hb:Nat.beq d d' with
    | true=>
     rw [hb]at h;cases h;have:=Nat.eq_of_beq_eq_true hb;subst this;exact⟨rfl,hop⟩
    | false=>rw [hb]at h;exact key rfl h
  · exact key rfl h
theorem Run.append {all:Array Oper} {b:Bool} {l1:List Oper} {rows1:List Row} {E0:List (AV U)} {h0:za U} {E1:List (AV U)} {h1:za U} (r1:Run C all b l1 rows1 E0 h0 E1 h1):∀{l2:List Oper} {rows2:List Row} {E2:List (AV U)} {h2:za U},Run C all b l2 rows2 E1 h1 E2 h2→Run C all b (l1++l2) (rows1++rows2) E0 h0 E2 h2:=by
 induction r1 with
 | nil=>intro l2 rows2 E2 h2 r;exact r
 | go x1 x2 x3 x4 _ ih=>intro l2 rows2 E2 h2 r;exact .go x1 x2 x3 x4 (ih r)
 | skip x1 x2 x3 x4 x5 _ ih=>intro l2 rows2 E2 h2 r;exact .skip x1 x2 x3 x4 x5 (ih r)
 | weak x1 x2 _ ih=>intro l2 rows2 E2 h2 r;exact .weak x1 x2 (ih r)
 | give x1 _ ih=>intro l2 rows2 E2 h2 r;exact .give x1 (ih r)
def z8g (C:Ctx U) (all:Array Oper) (rows:List Row) (l:List Oper):Prop:=F2 (fun(row:Row) (o:Oper)=>row.dst=zmw o∧row.look=zlj all o∧row.cls=zar C o∧row.top=true) rows l
theorem zo2 {E:List (AV U)} {d:Option Tmp} {v:AV U} {t:Nat} (h:d≠some t):(zd0 E d v).getD t .dead=E.getD t .dead:=by
 rw [zic,if_neg (fun hh=>h hh.1)]
def zox (l:List Oper) (E:List (AV U)):List (AV U):=l.foldl (fun E o=>zd0 E o.dst (.sc undef)) E
theorem ziz:∀(l:List Oper) (E:List (AV U)),(zox l E).length=E.length∧∀t,(∀o∈l,o.dst≠some t)→(zox l E).getD t .dead=E.getD t .dead
 | [],E=>⟨rfl,fun _ _=>rfl⟩
 | o::l,E=>by
  obtain⟨h1,h2⟩:=ziz l (zd0 E o.dst (.sc undef));refine⟨by rw [zox,List.foldl_cons];exact h1.trans (zgy _ _ _),fun t ht=> ?_⟩;rw [zox,List.foldl_cons];exact(h2 t fun o' ho'=>ht o' (mca _ ho')).trans (zo2 (ht o msa))
theorem z5q {all:Array Oper} {b:Bool} {g:Nat} {want:Bool} {d:Nat} (hd:(all[g]?).bind (·.dst)=some d):∀(grp:List Oper) (us:List Nat) (E:List (AV U)),zxl all g want us grp=true→E.getD d .dead= .sc (.bool (!want))→
 (∀x∈us,E.getD x .dead= .sc undef∨E.length≤x)→(∀o∈grp,o.dst≠some d)→∀rows,z8g C all rows grp→Run C all b grp rows E h (zox grp E) h
 | [],us,E,_,_,_,_,rows,ht=>by
  cases ht;exact .nil
 | o::l,us,E,hs,he,hu,hdd,rows,ht=>by
  cases ht with
  | cons hr ht=>
   rename_i row rows;unfold zxl at hs;split at hs
   · rename_i g' w' hg;simp only [baa,Bool.or_eq_true]at hs;obtain⟨hs1,hs2⟩:=hs;have hslot:∃d',(all[g']?).bind (·.dst)=some d'∧((∃u,E.getD d' .dead= .sc u∧u≠ .bool w')∨E.length≤d'):=by
      rcases hs1 with h1|h1
      · unfold zo5 at h1;simp only [baa,zca,decide_eq_true_eq,beq_iff_eq]at h1;obtain⟨rfl,rfl⟩:=h1;exact⟨d,hd,.inl ⟨_,he,by cases want<;>simp⟩⟩
      · split at h1
        · rename_i d' hd';have hm:d'∈us:=by simpa using h1
          refine⟨d',hd',?_⟩;rcases hu d' hm with h2|h2
          · exact .inl ⟨_,h2,by simp [undef]⟩
          · exact .inr h2
        · cases h1
     obtain⟨d',h1,h2⟩:=hslot;have hne:=hdd o msa;have r1:=z5q (b:=b) hd l _ (zd0 E o.dst (.sc undef)) hs2 (by rw [zo2 hne];exact he) (fun x hx=>by
      rw [zgy,zic];cases hod:o.dst with
      | none=>
       rw [hod]at hx;simpa using hu x hx
      | some y=>
       rw [hod]at hx
       by_cases e:y=x
       · subst e
         by_cases hl:y<E.length
         · left;simp [hl]
         · exact .inr (Nat.le_of_not_lt hl)
       · have hx':x∈us:=by
          rcases mco hx with rfl|hx
          · exact absurd rfl e
          · exact hx
         simpa [e]using hu x hx') (fun o' ho'=>hdd o' (mca _ ho')) rows ht
     exact .skip hg h1 h2 hr.1 hr.2.1 r1
   · cases hs
end
section
variable {U:Uni} {C:Ctx U} {μ:Mp} {H:Fz} {E:List (AV U)} {h h':za U} {a:Act} {w:World} {o:Oper} {v:AV U}
def zj7 (all:Array Oper) (under:Option (Nat × Bool)) (l:List Oper) (E:List (AV U)):Prop:=
 ∀g want,under=some (g,want)→∃d,(all[g]?).bind (·.dst)=some d∧E.getD d .dead= .sc (.bool want)∧∀o∈l,o.dst≠some d
structure Ran (C:Ctx U) (all:Array Oper) (strict:Bool) (l:List Oper) (E:List (AV U)) (h:za U) (E':List (AV U)) (h':za U):Prop where
 len:E'.length=E.length
 keep:∀t u,(∀o∈l,o.dst≠some t)→E.getD t .dead= .sc u→E'.getD t .dead= .sc u
 same:strict=true→∀t,(∀o∈l,o.dst≠some t)→E'.getD t .dead=E.getD t .dead
 quiet:strict=true→(l.all (zj1 C))=true→h'=h
 run:∀rows,z8g C all rows l→Run C all strict l rows E h E' h'
theorem zj7.mono {all:Array Oper} {under:Option (Nat × Bool)} {l l':List Oper} {E E':List (AV U)} (hu:zj7 all under l E) (hl:∀o∈l',o∈l) (he:∀t u,(∀o∈l,o.dst≠some t)→E.getD t .dead= .sc u→E'.getD t .dead= .sc u):zj7 all under l' E':=by
 intro g want hg
 obtain⟨d,h1,h2,h3⟩:=hu g want hg
 exact⟨d,h1,he d _ h3 h2,fun o ho=>h3 o (hl o ho)⟩
theorem Ran.nil {all:Array Oper} {strict:Bool}:Ran C all strict [] E h E h where
 len:=rfl
 keep:=fun _ _ _ h=>h
 same:=fun _ _ _=>rfl
 quiet:=fun _ _=>rfl
 run:=fun rows ht=>by cases ht;exact .nil
theorem Ran.cons {all:Array Oper} {strict:Bool} {l:List Oper} {E1:List (AV U)} {h1:za U} {v:AV U} {h2:za U} {E':List (AV U)} {h':za U} (hg:∀g want,o.guard=some (g,want)→∃d,(all[g]?).bind (·.dst)=some d∧E.getD d .dead= .sc (.bool want))
 (hst:strict=true→E1=E∧h1=h) (hns:strict=false→∃ks,zfo ks E h=(E1,h1)) (gd:zlm C E1 h1 o v h2) (hf:strict=true→∀k∈zby C E h o,zc h k≠none) (r:Ran C all strict l (zd0 E1 o.dst v) h2 E' h'):Ran C all strict (o::l) E h E' h':=by
 have hE1:E1.length=E.length∧∀t u,E.getD t .dead= .sc u→E1.getD t .dead= .sc u:=by
  cases strict with
  | true=>obtain⟨rfl,rfl⟩:=hst rfl;exact⟨rfl,fun _ _ h=>h⟩
  | false=>
   obtain⟨ks,hks⟩:=hns rfl;have e1:E1=(zfo ks E h).1:=by rw [hks]
   rw [e1];exact⟨zoi ks E h,fun t u he=>ztb ks E h he⟩
 refine⟨by rw [r.len,zgy,hE1.1],fun t u ht he=> ?_,fun hs t ht=> ?_,fun hs hq=> ?_,fun rows ht=> ?_⟩
 · refine r.keep t u (fun o' ho'=>ht o' (mca _ ho')) ?_;rw [zo2 (ht o msa)];exact hE1.2 t u he
 · rw [r.same hs t (fun o' ho'=>ht o' (mca _ ho')),zo2 (ht o msa),(hst hs).1]
 · simp only [List.all_cons,baa]at hq;rw [r.quiet hs hq.2,gd.2.2.1 hq.1,(hst hs).2]
 · cases ht with
   | cons hr ht=>
    rename_i row rows;have hcov:∀E h,Cov C all row o E h:=fun E h=>⟨hr.1,hr.2.1,hr.2.2.1,.inl hr.2.2.2⟩;cases strict with
    | true=>
     obtain⟨rfl,rfl⟩:=hst rfl;exact .go hg gd (hcov _ _) hf (r.run rows ht)
    | false=>
     obtain⟨ks,hks⟩:=hns rfl;have e1:E1=(zfo ks E h).1:=by rw [hks]
     have e2:h1=(zfo ks E h).2:=by rw [hks]
     refine .give (ks:=ks) rfl ?_;rw [←e1,←e2];refine .go (fun g want hgg=> ?_) gd (hcov _ _) (fun e=>by cases e) (r.run rows ht);obtain⟨d,h3,h4⟩:=hg g want hgg;exact⟨d,h3,hE1.2 d _ h4⟩
theorem Ran.append {all:Array Oper} {strict:Bool} {l1 l2:List Oper} {E1:List (AV U)} {h1:za U} {E':List (AV U)} {h':za U} (r1:Ran C all strict l1 E h E1 h1) (r2:Ran C all strict l2 E1 h1 E' h'):Ran C all strict (l1++l2) E h E' h' where
 len:=r2.len.trans r1.len
 keep:=fun t u ht he=>r2.keep t u (fun o ho=>ht o (mra _ ho)) (r1.keep t u (fun o ho=>ht o (mla _ ho)) he)
 same:=fun hs t ht=>(r2.same hs t fun o ho=>ht o (mra _ ho)).trans (r1.same hs t fun o ho=>ht o (mla _ ho))
 quiet:=fun hs hq=>by
  rw [List.all_append,baa]at hq;exact(r2.quiet hs hq.2).trans (r1.quiet hs hq.1)
 run:=fun rows ht=>by
  obtain⟨rows1,rows2,rfl,t1,t2⟩:=F2.split ht;exact(r1.run rows1 t1).append (r2.run rows2 t2)
theorem Ran.forget {all:Array Oper} {strict:Bool} {l:List Oper} {E1:List (AV U)} {h1:za U} (r1:Ran C all strict l E h E1 h1) {E2:List (AV U)} (hl:E2.length=E1.length) (hw:∀t,E2.getD t .dead=E1.getD t .dead∨E2.getD t .dead= .dead)
 (hk:∀t,(∀o∈l,o.dst≠some t)→E2.getD t .dead=E1.getD t .dead):Ran C all strict l E h E2 h1 where
 len:=hl.trans r1.len
 keep:=fun t u ht he=>by rw [hk t ht];exact r1.keep t u ht he
 same:=fun hs t ht=>(hk t ht).trans (r1.same hs t ht)
 quiet:=r1.quiet
 run:=fun rows ht=>by
  have:=(r1.run rows ht).append (.weak hl hw .nil:Run C all strict [] [] E1 h1 E2 h1);simpa using this
theorem z17:∀(l:List Oper) (E:List (AV U)),(zkq l E).length=E.length∧(∀t,(∀o∈l,o.dst≠some t)→(zkq l E).getD t .dead=E.getD t .dead)∧∀t,(∃o∈l,o.dst=some t)→(zkq l E).getD t .dead= .dead
 | [],E=>⟨rfl,fun _ _=>rfl,fun t ⟨o,ho,_⟩=>by simp at ho⟩
 | o::l,E=>by
  obtain⟨h1,h2,h3⟩:=z17 l (zd0 E o.dst .dead);refine⟨by rw [zkq,List.foldl_cons];exact h1.trans (zgy _ _ _),fun t ht=> ?_,fun t ht=> ?_⟩
  · rw [zkq,List.foldl_cons];exact(h2 t fun o' ho'=>ht o' (mca _ ho')).trans (zo2 (ht o msa))
  · rw [zkq,List.foldl_cons]
    by_cases hx:∃o'∈l,o'.dst=some t
    · exact h3 t hx
    · have hn:∀o'∈l,o'.dst≠some t:=fun o' ho' e=>hx ⟨o',ho',e⟩;refine(h2 t hn).trans ?_;obtain⟨o',ho',e⟩:=ht;rcases mco ho' with rfl|ho'
      · rw [zic];split
        · rfl
        · rename_i hh;have:¬t<E.length:=fun hl=>hh ⟨e,hl⟩;rw [gda,List.getElem?_eq_none (Nat.le_of_not_lt this)];rfl
      · exact absurd e (hn o' ho')
theorem Ran.pick {all:Array Oper} {strict:Bool} {d:Nat} {x y:Operand} {b:Bool} (ho:o.op= .pick (.tmp d) x y) (hd:E.getD d .dead= .sc (.bool b)) (hg:∀g want,o.guard=some (g,want)→∃d,(all[g]?).bind (·.dst)=some d∧E.getD d .dead= .sc (.bool want)):
 Ran C all strict [o] E h (zd0 E o.dst (opv C E (cond b x y))) h:=by
 refine Ran.cons (E1:=E) (h1:=h) hg (fun _=>⟨rfl,rfl⟩) (fun _=>⟨[],rfl⟩) (zbi (fun μ H a w p _=>zagi p ho hd) ⟨[],rfl⟩ fun _=>rfl) (fun _ k hk=> ?_) Ran.nil
 have:zby C E h o=[]:=by unfold zby;simp [zar,ho]
 rw [this]at hk
 simp at hk
end
section
variable {U:Uni} {C:Ctx U} {μ:Mp} {H:Fz} {E:List (AV U)} {h h':za U} {a:Act} {w:World} {o:Oper} {v:AV U}
theorem zya {under:Option (Nat × Bool)} {g:Nat} {w:Bool} (h:zo5 under g w=true):under=some (g,w):=by
 unfold zo5 at h
 split at h
 · rename_i j v;simp only [baa,zca,decide_eq_true_eq,beq_iff_eq]at h;obtain⟨rfl,rfl⟩:=h;rfl
 · cases h
theorem z3c {strict:Bool} (hb:(!strict||(zby C E h o).all fun k=>(zc h k).isSome)=true):strict=true→∀k∈zby C E h o,zc h k≠none:=by
 intro hs k hk
 rw [hs]at hb
 simp only [Bool.not_true,Bool.false_or]at hb
 have:=lat hb k hk
 intro e
 rw [e]at this
 cases this
theorem zob {x:Operand} {r:Bool} (h:znm C E x=some r):opv C E x= .sc (.bool r):=by
 unfold znm at h
 split at h
 · cases h;assumption
 · cases h
theorem z1p (L:CLaws C) (O:OOK C) (X:XOK C) {all:Array Oper} {strict:Bool} {under:Option (Nat × Bool)} {l:List Oper} {R:Type} {f:AV U→List (AV U)→za U→Option R} {r:R}
 (hc:z1c C strict E h o f=some r) (hu:zj7 all under (o::l) E) (hg:∀g want,o.guard=some (g,want)→∃d,(all[g]?).bind (·.dst)=some d∧E.getD d .dead= .sc (.bool want)) (hf:strict=true→∀k∈zby C E h o,zc h k≠none) {P:List (AV U)→za U→Prop}
 (ih:∀v E1 h2,f v E1 h2=some r→zj7 all under l (zd0 E1 o.dst v)→∃E' h',P E' h'∧Ran C all strict l (zd0 E1 o.dst v) h2 E' h'):∃E' h',P E' h'∧Ran C all strict (o::l) E h E' h':=by
 obtain⟨E1,h1,v,h2,e1,e2,gd,hk⟩:=z5j L O X hc
 have hu':zj7 all under l (zd0 E1 o.dst v):=hu.mono (fun o' ho'=>mca _ ho') fun t u ht he=>by
  rw [zo2 (ht o msa)];cases strict with
  | true=>rw [(e1 rfl).1];exact he
  | false=>
   obtain⟨ks,hks⟩:=e2 rfl;have:E1=(zfo ks E h).1:=by rw [hks]
   rw [this];exact ztb ks E h he
 obtain⟨E',h',p,rn⟩:=ih v E1 h2 hk hu'
 exact⟨E',h',p,Ran.cons hg e1 e2 gd hf rn⟩
theorem z86 {all:Array Oper} {strict:Bool} {g:Nat} {want:Bool} {d:Nat} (hd:(all[g]?).bind (·.dst)=some d) {grp:List Oper} (hs:zxl all g want [] grp=true) (he:E.getD d .dead= .sc (.bool (!want))) (hn:∀o∈grp,o.dst≠some d):
 Ran C all strict grp E h (zox grp E) h where
 len:=(ziz grp E).1
 keep:=fun t u ht h0=>by rw [(ziz grp E).2 t ht];exact h0
 same:=fun _ t ht=>(ziz grp E).2 t ht
 quiet:=fun _ _=>rfl
 run:=fun rows ht=>z5q hd grp [] E hs he (fun x hx=>by simp at hx) hn rows ht
theorem zr7 {all:Array Oper} {strict:Bool} {under:Option (Nat × Bool)} {rest:List Oper} {grp:List Oper} {p:Oper} {d:Nat} {x y:Operand} {b:Bool} (hp:p.op= .pick (.tmp d) x y) (hd:E.getD d .dead= .sc (.bool b)) (hn:∀o∈grp,o.dst≠some d) (hpk:z6g under p=true)
 (hu:zj7 all under (grp++p::rest) E) {E1:List (AV U)} {h1:za U} (r:Ran C all strict grp E h E1 h1) {v:AV U} (hv:opv C E1 (cond b x y)=v):Ran C all strict (grp++[p]) E h (zd0 E1 p.dst v) h1:=by
 refine r.append ?_
 rw [←hv]
 refine Ran.pick hp (r.keep d _ hn hd) fun g want hg=> ?_
 unfold z6g at hpk
 rw [hg]at hpk
 obtain⟨d2,e1,e2,e3⟩:=hu g want (zya hpk)
 exact⟨d2,e1,r.keep d2 _ (fun o ho=>e3 o (mla _ ho)) e2⟩
theorem zy7 {all:Array Oper} {strict:Bool} {grp:List Oper} {p:Oper} {E1:List (AV U)} {h1:za U} {v:AV U} (r:Ran C all strict (grp++[p]) E h (zd0 E1 p.dst v) h1) (hl:E1.length=E.length) (hs:∀t,(∀o∈grp,o.dst≠some t)→E1.getD t .dead=E.getD t .dead):
 Ran C all strict (grp++[p]) E h (zd0 (zkq grp E) p.dst v) h1:=by
 obtain⟨k1,k2,k3⟩:=z17 grp E
 have key:∀t,(zkq grp E).getD t .dead=E1.getD t .dead∨(zkq grp E).getD t .dead= .dead:=by
  intro t
  by_cases hx:∃o∈grp,o.dst=some t
  · exact .inr (k3 t hx)
  · have hn:∀o∈grp,o.dst≠some t:=fun o ho e=>hx ⟨o,ho,e⟩;exact .inl ((k2 t hn).trans (hs t hn).symm)
 refine r.forget (by rw [zgy,zgy,k1,hl]) (fun t=> ?_) fun t ht=> ?_
 · rw [zic,zic,k1,hl];split
   · exact .inl rfl
   · exact key t
 · have hn:∀o∈grp,o.dst≠some t:=fun o ho=>ht o (mla _ ho);rw [zic,zic,k1,hl,k2 t hn,hs t hn]
theorem zaat {all:Array Oper} {under:Option (Nat × Bool)} {rest:List Oper} {grp:List Oper} {p:Oper} (hu:zj7 all under (grp++p::rest) E) {strict:Bool} {E1:List (AV U)} {h1:za U} (r:Ran C all strict (grp++[p]) E h E1 h1):zj7 all under rest E1:=by
 intro g want hg
 obtain⟨d,e1,e2,e3⟩:=hu g want hg
 refine⟨d,e1,r.keep d _ (fun o ho=>e3 o ?_) e2,fun o ho=>e3 o (by simp [ho])⟩
 rcases mpa ho with ho|ho
 · exact mla _ ho
 · simp at ho;simp [ho]
end
section
variable {U:Uni} {C:Ctx U} {μ:Mp} {H:Fz} {E:List (AV U)} {h h':za U} {a:Act} {w:World} {o:Oper} {v:AV U}
theorem zcv {α:Type} {c:Bool} {x:Option α} {y:α} (h:cond c x none=some y):c=true∧x=some y:=by
 cases c with
 | false=>cases h
 | true=>exact⟨rfl,h⟩
theorem Run.of_strict {all:Array Oper} {b:Bool} {l:List Oper} {rows:List Row} {E0:List (AV U)} {h0:za U} {E':List (AV U)} {h':za U} (r:Run C all true l rows E0 h0 E' h'):Run C all b l rows E0 h0 E' h':=by
 induction r with
 | nil=>exact .nil
 | go x1 x2 x3 x4 _ ih=>exact .go x1 x2 x3 (fun _=>x4 rfl) ih
 | skip x1 x2 x3 x4 x5 _ ih=>exact .skip x1 x2 x3 x4 x5 ih
 | weak x1 x2 _ ih=>exact .weak x1 x2 ih
 | give x1 _ ih=>cases x1
theorem Ran.of_strict {all:Array Oper} {b:Bool} {l:List Oper} {E':List (AV U)} {h':za U} (r:Ran C all true l E h E' h'):Ran C all b l E h E' h' where
 len:=r.len
 keep:=r.keep
 same:=fun _=>r.same rfl
 quiet:=fun _=>r.quiet rfl
 run:=fun rows ht=>(r.run rows ht).of_strict
theorem zhv (L:CLaws C) (O:OOK C) (X:XOK C) {all:Array Oper}:∀(n:Nat) {R:Type} (strict:Bool) (under:Option (Nat × Bool)) (seen:List Row) (l:List Oper) (E:List (AV U)) (h:za U) (k:List (AV U)→za U→Option R) (r:R),
 zej C false strict all n under seen l E h k=some r→zj7 all under l E→∃E' h',k E' h'=some r∧Ran C all strict l E h E' h'
 | 0,R,strict,under,seen,l,E,h,k,r,hc,hu=>by simp [zej]at hc
 | n+1,R,strict,under,seen,[],E,h,k,r,hc,hu=>⟨E,h,by simpa [zej]using hc,Ran.nil⟩
 | n+1,R,strict,under,seen,o::l,E,h,k,r,hc,hu=>by
  unfold zej at hc;cases hg:o.guard with
  | none=>
   rw [hg]at hc;simp only at hc;cases hb:(!strict||(zby C E h o).all fun k=>(zc h k).isSome)with
   | false=>rw [hb]at hc;cases hc
   | true=>
    rw [hb]at hc;simp only [cond_true,zxn,cond_false]at hc;exact z1p L O X hc hu (fun g want e=>by rw [hg]at e;cases e) (z3c hb) (P:=fun E' h'=>k E' h'=some r) fun v E1 h2 hk hu'=>zhv L O X n strict under seen l _ _ k r hk hu'
  | some gw=>
   obtain⟨g,want⟩:=gw;rw [hg]at hc;simp only at hc;cases hgi:zo5 under g want with
   | true=>
    rw [hgi]at hc;simp only [cond_true]at hc;cases hb:(!strict||(zby C E h o).all fun k=>(zc h k).isSome)with
    | false=>rw [hb]at hc;cases hc
    | true=>
     rw [hb]at hc;simp only [cond_true]at hc;refine z1p L O X hc hu (fun g' want' e=> ?_) (z3c hb) (P:=fun E' h'=>k E' h'=some r) fun v E1 h2 hk hu'=>zhv L O X n strict under seen l _ _ k r hk hu';rw [hg]at e;cases e;obtain⟨d,e1,e2,_⟩:=hu g want (zya hgi);exact⟨d,e1,e2⟩
   | false=>
    rw [hgi]at hc;simp only [cond_false]at hc;cases hd:(all[g]?).bind (·.dst)with
    | none=>rw [hd]at hc;cases hc
    | some d=>
     rw [hd]at hc;simp only at hc;split at hc
     · rename_i b hEd;split at hc
       · rename_i grp p x y rest hsp;obtain⟨hl,hpop⟩:=zpz hsp;split at hc
         · rename_i seen' hseen;obtain⟨hck,hseen⟩:=zcv hseen;obtain⟨hck1,hck2⟩:=(baa _ _).mp hck;obtain⟨hsk,hpk⟩:=(baa _ _).mp hck2;have hn:∀o∈grp,o.dst≠some d:=fun o' ho' e=>by
            have:=lat hck1 o' (mla _ ho');rw [e]at this;simp [zca]at this
           · rw [hl]at hu⊢;have hl2:grp++p::rest=(grp++[p])++rest:=by simp
             have hunder:∀(E:List (AV U)),E.getD d .dead= .sc (.bool want)→zj7 all (some (g,want)) grp E:=fun E he g' w' e=>by cases e;exact⟨d,hd,he,hn⟩
             have fin:∀{E2:List (AV U)} {h2:za U} {sn:List Row},Ran C all strict (grp++[p]) E h E2 h2→zej C false strict all n under sn rest E2 h2 k=some r→∃E' h',k E' h'=some r∧Ran C all strict (grp++p::rest) E h E' h':=by
              intro E2 h2 sn rn hk;obtain⟨E',h',e1,e2⟩:=zhv L O X n strict under sn rest E2 h2 k r hk (zaat hu rn);exact⟨E',h',e1,by rw [hl2];exact rn.append e2⟩
             have hskip:∀{v:AV U},b= !want→opv C (zox grp E) (cond b x y)=v→Ran C all strict (grp++[p]) E h (zd0 (zkq grp E) p.dst v) h:=by
              intro v hbw hv;have hsr:=z86 (C:=C) (strict:=strict) (h:=h) hd hsk (by rw [hEd,hbw]) hn;exact zy7 (zr7 hpop hEd hn hpk hu hsr hv) (ziz grp E).1 (ziz grp E).2
             cases hq:grp.all (zj1 C)with
             | true=>
              rw [hq]at hc;simp only [cond_true,oba]at hc;obtain⟨rb,hrb,hc⟩:=hc;refine fin (E2:=zd0 (zkq grp E) p.dst (.sc (.bool rb))) (h2:=h) ?_ hc;have hrun:∀(z:Operand),cond b x y=z→b=want→zej C false true all n (some (g,want)) [] grp E h (fun E' _=>znm C E' z)=some rb→Ran C all strict (grp++[p]) E h (zd0 (zkq grp E) p.dst (.sc (.bool rb))) h:=by
               intro z hz hbw hin;obtain⟨E1,h1,e1,e2⟩:=zhv L O X n true (some (g,want)) [] grp E h _ rb hin (hunder E (by rw [hEd,hbw]));have hq1:=e2.quiet rfl hq;subst hq1;exact zy7 (zr7 hpop hEd hn hpk hu e2.of_strict (by rw [hz];exact zob e1)) e2.len (e2.same rfl)
              split at hrb
              · cases b with
                | true=>cases hrb;exact hskip rfl rfl
                | false=>exact hrun _ rfl rfl hrb
              · cases b with
                | true=>exact hrun _ rfl rfl hrb
                | false=>cases hrb;exact hskip rfl rfl
              · cases hrb
             | false=>
              rw [hq]at hc;simp only [cond_false]at hc;have hrun:∀(z:Operand),cond b x y=z→b=want→zej C false strict all n (some (g,want)) [] grp E h (fun E' h'=>(znm C E' z).bind fun rb=>zej C false strict all n under seen' rest (zd0 E' p.dst (.sc (.bool rb))) h' k)=some r→
               ∃E' h',k E' h'=some r∧Ran C all strict (grp++p::rest) E h E' h':=by
               intro z hz hbw hin;obtain⟨E1,h1,e1,e2⟩:=zhv L O X n strict (some (g,want)) [] grp E h _ r hin (hunder E (by rw [hEd,hbw]));rw [oba]at e1;obtain⟨rb,e3,e4⟩:=e1;exact fin (zr7 hpop hEd hn hpk hu e2 (by rw [hz];exact zob e3)) e4
              split at hc
              · cases b with
                | true=>exact fin (hskip rfl rfl) hc
                | false=>exact hrun _ rfl rfl hc
              · cases b with
                | true=>exact hrun _ rfl rfl hc
                | false=>exact fin (hskip rfl rfl) hc
              · cases hc
         · cases hc
       · cases hc
     · cases hc
end
section
variable {U:Uni} {C:Ctx U} {μ:Mp} {H:Fz} {E:List (AV U)} {h h':za U} {a:Act} {w:World} {o:Oper} {v:AV U}
inductive zks:List Row→List Row→List Oper→Prop
 | nil {seen:List Row}:zks seen [] []
 | cons {seen:List Row} {row:Row} {rows:List Row} {o0:Oper} {l:List Oper}:row.before=zqj seen o0→zyy row 0 seen=true→zks (seen++[row]) rows l→zks seen (row::rows) (o0::l)
theorem zks.append {seen:List Row} {rows1:List Row} {l1:List Oper} (c1:zks seen rows1 l1):∀{rows2:List Row} {l2:List Oper},zks (seen++rows1) rows2 l2→zks seen (rows1++rows2) (l1++l2):=by
 induction c1 with
 | nil=>intro rows2 l2 c2;simpa using c2
 | cons h1 h2 _ ih=>
  intro rows2 l2 c2;exact .cons h1 h2 (ih (by simpa using c2))
theorem zxm {all:Array Oper}:∀(l:List Oper) (seen seen':List Row),zyx C true all seen l=some seen'→∃rows,seen'=seen++rows∧zks seen rows l∧z8g C all rows l
 | [],seen,seen',h=>by
  cases h;exact⟨[],by simp,.nil,.nil⟩
 | o::l,seen,seen',h=>by
  simp only [zyx,oba]at h;obtain⟨s1,h1,h2⟩:=h;simp only [zxn,cond_true]at h1;obtain⟨hr,hs⟩:=zcv h1;cases hs;obtain⟨rows,e1,e2,e3⟩:=zxm l _ _ h2;exact⟨zace C all seen o::rows,by rw [e1];simp,.cons rfl hr e2,.cons ⟨rfl,rfl,rfl,rfl⟩ e3⟩
end
section
variable {U:Uni} {C:Ctx U} {μ:Mp} {H:Fz} {E:List (AV U)} {h h':za U} {a:Act} {w:World} {o:Oper} {v:AV U}
theorem ztt (L:CLaws C) (O:OOK C) (X:XOK C) {all:Array Oper}:∀(n:Nat) {R:Type} (seen:List Row) (l:List Oper) (E:List (AV U)) (h:za U) (k:List (AV U)→za U→Option R) (r:R),
 zej C true true all n none seen l E h k=some r→∃E' h' rows,k E' h'=some r∧zks seen rows l∧Run C all true l rows E h E' h'
 | 0,R,seen,l,E,h,k,r,hc=>by simp [zej]at hc
 | n+1,R,seen,[],E,h,k,r,hc=>⟨E,h,[],by simpa [zej]using hc,.nil,.nil⟩
 | n+1,R,seen,o::l,E,h,k,r,hc=>by
  unfold zej at hc;cases hg:o.guard with
  | none=>
   rw [hg]at hc;simp only at hc;split at hc
   · rename_i seen' hseen;obtain⟨hb,hseen⟩:=zcv hseen;simp only [zxn,cond_true]at hseen;obtain⟨hr,hs⟩:=zcv hseen;cases hs;obtain⟨E1,h1,v,h2,e1,e2,gd,hk⟩:=z5j L O X hc;obtain⟨rfl,rfl⟩:=e1 rfl;obtain⟨E',h',rows,g1,g2,g3⟩:=ztt L O X n _ l _ _ k r hk;exact⟨E',h',zacf C all seen E1 h1 o::rows,g1,.cons rfl hr g2,.go (fun g want e=>by rw [hg]at e;cases e) gd ⟨rfl,rfl,rfl,.inr fun k hk=>hk⟩ (z3c hb) g3⟩
   · cases hc
  | some gw=>
   obtain⟨g,want⟩:=gw;rw [hg]at hc;simp only [zo5,cond_false]at hc;cases hd:(all[g]?).bind (·.dst)with
   | none=>rw [hd]at hc;cases hc
   | some d=>
    rw [hd]at hc;simp only at hc;split at hc
    · rename_i b hEd;split at hc
      · rename_i grp p x y rest hsp;obtain⟨hl,hpop⟩:=zpz hsp;split at hc
        · rename_i seen' hseen;obtain⟨hck,hseen⟩:=zcv hseen;obtain⟨hck1,hck2⟩:=(baa _ _).mp hck;obtain⟨hsk,hpk⟩:=(baa _ _).mp hck2;have hn:∀o∈grp,o.dst≠some d:=fun o' ho' e=>by
           have:=lat hck1 o' (mla _ ho');rw [e]at this;simp [zca]at this
          rw [hl];have hu:zj7 all none (grp++p::rest) E:=fun g w e=>by cases e
          have hl2:grp++p::rest=(grp++[p])++rest:=by simp
          obtain⟨rt,rfl,hch,htp⟩:=zxm _ _ _ hseen;have hunder:∀(E:List (AV U)),E.getD d .dead= .sc (.bool want)→zj7 all (some (g,want)) grp E:=fun E he g' w' e=>by cases e;exact⟨d,hd,he,hn⟩
          have fin:∀{E2:List (AV U)} {h2:za U},Ran C all true (grp++[p]) E h E2 h2→zej C true true all n none (seen++rt) rest E2 h2 k=some r→∃E' h' rows,k E' h'=some r∧zks seen rows (grp++p::rest)∧Run C all true (grp++p::rest) rows E h E' h':=by
           intro E2 h2 rn hk;obtain⟨E',h',rows,e1,e2,e3⟩:=ztt L O X n (seen++rt) rest E2 h2 k r hk;exact⟨E',h',rt++rows,e1,by rw [hl2];exact hch.append e2,by rw [hl2];exact(rn.run rt htp).append e3⟩
          have hskip:∀{v:AV U},b= !want→opv C (zox grp E) (cond b x y)=v→Ran C all true (grp++[p]) E h (zd0 (zkq grp E) p.dst v) h:=by
           intro v hbw hv;have hsr:=z86 (C:=C) (strict:=true) (h:=h) hd hsk (by rw [hEd,hbw]) hn;exact zy7 (zr7 hpop hEd hn hpk hu hsr hv) (ziz grp E).1 (ziz grp E).2
          cases hq:grp.all (zj1 C)with
          | true=>
           rw [hq]at hc;simp only [cond_true,oba]at hc;obtain⟨rb,hrb,hc⟩:=hc;refine fin (E2:=zd0 (zkq grp E) p.dst (.sc (.bool rb))) (h2:=h) ?_ hc;have hrun:∀(z:Operand),cond b x y=z→b=want→zej C false true all n (some (g,want)) [] grp E h (fun E' _=>znm C E' z)=some rb→Ran C all true (grp++[p]) E h (zd0 (zkq grp E) p.dst (.sc (.bool rb))) h:=by
            intro z hz hbw hin;obtain⟨E1,h1,e1,e2⟩:=zhv L O X n true (some (g,want)) [] grp E h _ rb hin (hunder E (by rw [hEd,hbw]));have hq1:=e2.quiet rfl hq;subst hq1;exact zy7 (zr7 hpop hEd hn hpk hu e2 (by rw [hz];exact zob e1)) e2.len (e2.same rfl)
           split at hrb
           · cases b with
             | true=>cases hrb;exact hskip rfl rfl
             | false=>exact hrun _ rfl rfl hrb
           · cases b with
             | true=>exact hrun _ rfl rfl hrb
             | false=>cases hrb;exact hskip rfl rfl
           · cases hrb
          | false=>
           rw [hq]at hc;simp only [cond_false]at hc;have hrun:∀(z:Operand),cond b x y=z→b=want→zej C false true all n (some (g,want)) [] grp E h (fun E' h'=>(znm C E' z).bind fun rb=>zej C true true all n none (seen++rt) rest (zd0 E' p.dst (.sc (.bool rb))) h' k)=some r→
            ∃E' h' rows,k E' h'=some r∧zks seen rows (grp++p::rest)∧Run C all true (grp++p::rest) rows E h E' h':=by
            intro z hz hbw hin;obtain⟨E1,h1,e1,e2⟩:=zhv L O X n true (some (g,want)) [] grp E h _ r hin (hunder E (by rw [hEd,hbw]));rw [oba]at e1;obtain⟨rb,e3,e4⟩:=e1;exact fin (zr7 hpop hEd hn hpk hu e2 (by rw [hz];exact zob e3)) e4
           split at hc
           · cases b with
             | true=>exact fin (hskip rfl rfl) hc
             | false=>exact hrun _ rfl rfl hc
           · cases b with
             | true=>exact hrun _ rfl rfl hc
             | false=>exact fin (hskip rfl rfl) hc
           · cases hc
        · cases hc
      · cases hc
    · cases hc
end
section
variable {U:Uni} {C:Ctx U} {μ:Mp} {H:Fz} {E:List (AV U)} {h h':za U} {a:Act} {w:World} {o:Oper} {v:AV U}
structure Ev (U:Uni) where
 E:List (AV U)
 h:za U
 v:AV U
 h1:za U
 ran:Bool
def zpw (E1 E0:List (AV U)):Prop:=E1.length=E0.length∧∀t,E1.getD t .dead=E0.getD t .dead∨E1.getD t .dead= .dead
theorem zpw.refl (E:List (AV U)):zpw E E:=⟨rfl,fun _=> .inl rfl⟩
theorem zpw.trans {E1 E2 E3:List (AV U)} (h:zpw E1 E2) (h':zpw E2 E3):zpw E1 E3:=⟨h.1.trans h'.1,fun t=>by
 rcases h.2 t with e|e
 · rcases h'.2 t with e'|e'
   · exact .inl (e.trans e')
   · exact .inr (e.trans e')
 · exact .inr e⟩
def zyu (C:Ctx U) (all:Array Oper) (o:Oper) (row:Row) (e:Ev U):Prop:=
 row.dst=zmw o∧row.look=zlj all o∧
 ((e.ran=true∧(∀g want,o.guard=some (g,want)→∃d,(all[g]?).bind (·.dst)=some d∧e.E.getD d .dead= .sc (.bool want))∧zlm C e.E e.h o e.v e.h1∧Cov C all row o e.E e.h∧∀k∈zby C e.E e.h o,zc e.h k≠none)∨
  (e.ran=false∧e.v= .sc undef∧e.h1=e.h∧∃g want d,o.guard=some (g,want)∧(all[g]?).bind (·.dst)=some d∧((∃u,e.E.getD d .dead= .sc u∧u≠ .bool want)∨e.E.length≤d)))
inductive Evs (C:Ctx U) (all:Array Oper):List Oper→List Row→List (Ev U)→List (AV U)→za U→List (AV U)→za U→Prop
 | nil {E0 E1:List (AV U)} {h0:za U}:zpw E1 E0→Evs C all [] [] [] E0 h0 E1 h0
 | cons {o0:Oper} {l:List Oper} {row:Row} {rows:List Row} {e:Ev U} {es:List (Ev U)} {E0 E':List (AV U)} {h':za U}:zpw e.E E0→zyu C all o0 row e→Evs C all l rows es (zd0 e.E o0.dst e.v) e.h1 E' h'→Evs C all (o0::l) (row::rows) (e::es) E0 e.h E' h'
theorem Evs.weaken {all:Array Oper} {l:List Oper} {rows:List Row} {es:List (Ev U)} {E0 E1 E':List (AV U)} {h0 h':za U} (r:Evs C all l rows es E1 h0 E' h') (hw:zpw E1 E0):Evs C all l rows es E0 h0 E' h':=by
 cases r with
 | nil h1=>exact .nil (h1.trans hw)
 | cons h1 h2 h3=>exact .cons (h1.trans hw) h2 h3
theorem Run.events {all:Array Oper} {l:List Oper} {rows:List Row} {E0:List (AV U)} {h0:za U} {E':List (AV U)} {h':za U} (r:Run C all true l rows E0 h0 E' h'):∃es,Evs C all l rows es E0 h0 E' h':=by
 induction r with
 | nil=>exact⟨[],.nil (.refl _)⟩
 | go x1 x2 x3 x4 _ ih=>
  obtain⟨es,ih⟩:=ih;exact⟨⟨_,_,_,_,true⟩::es,.cons (.refl _) ⟨x3.1,x3.2.1,.inl ⟨rfl,x1,x2,x3,x4 rfl⟩⟩ ih⟩
 | skip x1 x2 x3 x4 x5 _ ih=>
  obtain⟨es,ih⟩:=ih;exact⟨⟨_,_,_,_,false⟩::es,.cons (.refl _) ⟨x4,x5,.inr ⟨rfl,rfl,rfl,_,_,_,x1,x2,x3⟩⟩ ih⟩
 | weak x1 x2 _ ih=>
  obtain⟨es,ih⟩:=ih;exact⟨es,ih.weaken ⟨x1,x2⟩⟩
 | give x1 _ ih=>cases x1
end
section
variable {U:Uni} {C:Ctx U} {μ:Mp} {H:Fz} {E:List (AV U)} {h h':za U} {a:Act} {w:World} {o:Oper} {v:AV U}
theorem Evs.lens {all:Array Oper} {l:List Oper} {rows:List Row} {es:List (Ev U)} {E0 E':List (AV U)} {h0 h':za U} (r:Evs C all l rows es E0 h0 E' h'):rows.length=l.length∧es.length=l.length:=by
 induction r with
 | nil=>exact⟨rfl,rfl⟩
 | cons _ _ _ ih=>exact⟨by simp [ih.1],by simp [ih.2]⟩
theorem Evs.ok {all:Array Oper} {l:List Oper} {rows:List Row} {es:List (Ev U)} {E0 E':List (AV U)} {h0 h':za U} (r:Evs C all l rows es E0 h0 E' h'):∀(i:Nat) o row e,l[i]?=some o→rows[i]?=some row→es[i]?=some e→zyu C all o row e:=by
 induction r with
 | nil=>intro i o row e h1;simp at h1
 | cons _ h2 _ ih=>
  intro i o row e g1 g2 g3;cases i with
  | zero=>cases g1;cases g2;cases g3;exact h2
  | succ i=>exact ih i o row e (by simpa using g1) (by simpa using g2) (by simpa using g3)
theorem zks.ok {seen rows:List Row} {l:List Oper} (c:zks seen rows l):∀(i:Nat) o row,l[i]?=some o→rows[i]?=some row→row.before=zqj (seen++rows.take i) o∧zyy row 0 (seen++rows.take i)=true:=by
 induction c with
 | nil=>intro i o row h1;simp at h1
 | cons h1 h2 _ ih=>
  intro i o row g1 g2;cases i with
  | zero=>cases g1;cases g2;simpa using⟨h1,h2⟩
  | succ i=>
   have:=ih i o row (by simpa using g1) (by simpa using g2);simpa using this
theorem zyu.keeps {all:Array Oper} {row:Row} {e:Ev U} (k:zyu C all o row e) {q:Nat} (hq:zc e.h q≠none):zc e.h1 q≠none:=by
 rcases k.2.2 with⟨_,_,g,_⟩|⟨_,_,g,_⟩
 · obtain⟨⟨l,hl⟩,_⟩:=g;rw [hl,zjx];cases zc l q with
   | none=>exact hq
   | some x=>simp
 · rw [g];exact hq
theorem Evs.keeps {all:Array Oper} {l:List Oper} {rows:List Row} {es:List (Ev U)} {E0 E':List (AV U)} {h0 h':za U} (r:Evs C all l rows es E0 h0 E' h') {q:Nat} (hq:zc h0 q≠none):
 zc h' q≠none∧∀(i:Nat) e,es[i]?=some e→zc e.h q≠none:=by
 induction r with
 | nil=>exact⟨hq,fun i e h1=>by simp at h1⟩
 | cons _ h2 _ ih=>
  have h3:=h2.keeps hq;obtain⟨g1,g2⟩:=ih h3;refine⟨g1,fun i e he=> ?_⟩;cases i with
  | zero=>cases he;exact hq
  | succ i=>exact g2 i e (by simpa using he)
theorem Evs.tail {all:Array Oper} {l:List Oper} {rows:List Row} {es:List (Ev U)} {E0 E':List (AV U)} {h0 h':za U} (r:Evs C all l rows es E0 h0 E' h'):∀(i:Nat) o e,l[i]?=some o→es[i]?=some e→Evs C all (l.drop (i+1)) (rows.drop (i+1)) (es.drop (i+1)) (zd0 e.E o.dst e.v) e.h1 E' h':=by
 induction r with
 | nil=>intro i o e h1;simp at h1
 | cons _ _ h3 ih=>
  intro i o e g1 g2;cases i with
  | zero=>cases g1;cases g2;simpa using h3
  | succ i=>simpa using ih i o e (by simpa using g1) (by simpa using g2)
theorem Evs.later {all:Array Oper} {l:List Oper} {rows:List Row} {es:List (Ev U)} {E0 E':List (AV U)} {h0 h':za U} (r:Evs C all l rows es E0 h0 E' h') {i j:Nat} {o:Oper} {e e':Ev U} (hl:l[i]?=some o) (hi:es[i]?=some e) (hj:es[j]?=some e') (hij:i<j) {q:Nat} (hq:zc e.h1 q≠none):zc e'.h q≠none:=by
 have:=(r.tail i o e hl hi).keeps hq
 refine this.2 (j-(i+1)) e' ?_
 rw [List.getElem?_drop,show i+1+(j-(i+1))=j by omega]
 exact hj
theorem Evs.slot {all:Array Oper} {l:List Oper} {rows:List Row} {es:List (Ev U)} {E0 E':List (AV U)} {h0 h':za U} (r:Evs C all l rows es E0 h0 E' h') (t:Nat):
 (∀(j:Nat) e,es[j]?=some e→(∀(i:Nat) o,i<j→l[i]?=some o→o.dst≠some t)→e.E.getD t .dead=E0.getD t .dead∨e.E.getD t .dead= .dead)∧
 ((∀o∈l,o.dst≠some t)→E'.getD t .dead=E0.getD t .dead∨E'.getD t .dead= .dead):=by
 induction r with
 | nil h1=>exact⟨fun j e h2=>by simp at h2,fun _=>h1.2 t⟩
 | cons h1 h2 _ ih=>
  rename_i o0 l row rows e es E0 E' h' _;have step:o0.dst≠some t→∀{c:AV U},(c=(zd0 e.E o0.dst e.v).getD t .dead∨c= .dead)→c=E0.getD t .dead∨c= .dead:=by
   intro hne c hc;rw [zo2 hne]at hc;rcases hc with rfl|hc
   · exact h1.2 t
   · exact .inr hc
  refine⟨fun j e' hj hn=> ?_,fun hn=> ?_⟩
  · cases j with
    | zero=>cases hj;exact h1.2 t
    | succ j=>
     exact step (hn 0 _ (by omega) rfl) (ih.1 j e' (by simpa using hj) fun i o hi ho=>hn (i+1) o (by omega) (by simpa using ho))
  · exact step (hn _ msa) (ih.2 fun o ho=>hn o (mca _ ho))
end
section
variable {U:Uni} {C:Ctx U} {μ:Mp} {H:Fz} {E:List (AV U)} {h h':za U} {a:Act} {w:World} {o:Oper} {v:AV U}
def Cur {α:Type} (S T:Nat→Prop) (val:Nat→α→Prop) (z x:α):Prop:=
 (∃i,S i∧T i∧(∀j,S j→T j→j≤i)∧val i x)∨((∀j,S j→¬T j)∧x=z)
theorem Cur.congr {α:Type} {S S' T:Nat→Prop} {val:Nat→α→Prop} {z x:α} (h:∀j,T j→(S j↔S' j)) (c:Cur S T val z x):Cur S' T val z x:=by
 rcases c with⟨i,h1,h2,h3,h4⟩|⟨h1,h2⟩
 · exact .inl ⟨i,(h i h2).1 h1,h2,fun j hj hT=>h3 j ((h j hT).2 hj) hT,h4⟩
 · exact .inr ⟨fun j hj hT=>h1 j ((h j hT).2 hj) hT,h2⟩
theorem Cur.cons {α:Type} {n:Nat} {T:Nat→Prop} {val:Nat→α→Prop} {z y x:α} (c:Cur (· <n) (fun i=>T (i+1)) (fun i=>val (i+1)) y x)
 (hy:(T 0∧val 0 y)∨(¬T 0∧y=z)):Cur (· <n+1) T val z x:=by
 rcases c with⟨i,h1,h2,h3,h4⟩|⟨h1,rfl⟩
 · refine .inl ⟨i+1,Nat.succ_lt_succ h1,h2,fun j hj hT=> ?_,h4⟩;cases j with
   | zero=>omega
   | succ j=>have:=h3 j (Nat.lt_of_succ_lt_succ hj) hT;omega
 · have hn:∀j,j<n+1→T j→j=0:=fun j hj hT=>by
    cases j with
    | zero=>rfl
    | succ j=>exact absurd hT (h1 j (Nat.lt_of_succ_lt_succ hj))
   rcases hy with⟨g1,g2⟩|⟨g1,rfl⟩
   · exact .inl ⟨0,Nat.succ_pos _,g1,fun j hj hT=>by rw [hn j hj hT];exact Nat.le_refl _,g2⟩
   · refine .inr ⟨fun j hj hT=> ?_,rfl⟩;have:=hn j hj hT;subst this;exact g1 hT
theorem Cur.none {α:Type} {T:Nat→Prop} {val:Nat→α→Prop} {z:α}:Cur (· <0) T val z z:= .inr ⟨fun j hj=>absurd hj (by omega),rfl⟩
def zrj (l:List Oper) (t:Nat) (i:Nat):Prop:=∃o,l[i]?=some o∧o.dst=some t
def ztn (es:List (Ev U)) (i:Nat) (c:AV U):Prop:=∃e,es[i]?=some e∧c=e.v
def zo9 (es:List (Ev U)) (k:Nat) (i:Nat):Prop:=∃e,es[i]?=some e∧zc e.h k=none∧zc e.h1 k≠none
def zky (C:Ctx U) (l:List Oper) (es:List (Ev U)) (k:Nat) (i:Nat):Prop:=∃o e,l[i]?=some o∧es[i]?=some e∧((e.ran=true∧zg6 C e.E e.h o k)∨(zc e.h k=none∧zc e.h1 k≠none))
def zxc (es:List (Ev U)) (k:Nat) (i:Nat) (x:Option (Ob U)):Prop:=∃e,es[i]?=some e∧x=zc e.h1 k
theorem zyu.stays {all:Array Oper} {row:Row} {e:Ev U} (k:zyu C all o row e) {q:Nat} (hq:¬((e.ran=true∧zg6 C e.E e.h o q)∨(zc e.h q=none∧zc e.h1 q≠none))):zc e.h1 q=zc e.h q:=by
 rcases k.2.2 with⟨hr,_,g,_⟩|⟨_,_,g,_⟩
 · cases hx:zc e.h q with
   | none=>
    cases hy:zc e.h1 q with
    | none=>rfl
    | some y=>exact absurd (.inr ⟨hx,by rw [hy];simp⟩) hq
   | some x=>
    rw [←hx];exact g.2.2.2 q (by rw [hx];simp) fun hw=>hq (.inl ⟨hr,hw⟩)
 · rw [g]
theorem Evs.curH {all:Array Oper} {l:List Oper} {rows:List Row} {es:List (Ev U)} {E0 E':List (AV U)} {h0 h':za U} (r:Evs C all l rows es E0 h0 E' h') (k:Nat):
 (∀(n:Nat) e,es[n]?=some e→Cur (· <n) (zky C l es k) (zxc es k) (zc h0 k) (zc e.h k))∧Cur (· <l.length) (zky C l es k) (zxc es k) (zc h0 k) (zc h' k):=by
 induction r with
 | nil=>exact⟨fun n e h1=>by simp at h1,Cur.none⟩
 | cons h1 h2 h3 ih=>
  rename_i o0 l row rows e es E0 E' h';have hy:(zky C (o0::l) (e::es) k 0∧zxc (e::es) k 0 (zc e.h1 k))∨(¬zky C (o0::l) (e::es) k 0∧zc e.h1 k=zc e.h k):=by
   by_cases hT:zky C (o0::l) (e::es) k 0
   · exact .inl ⟨hT,e,rfl,rfl⟩
   · exact .inr ⟨hT,h2.stays fun hh=>hT ⟨o0,e,rfl,rfl,hh⟩⟩
  refine⟨fun n e' hn=> ?_,Cur.cons (T:=zky C (o0::l) (e::es) k) (val:=zxc (e::es) k) ih.2 hy⟩;cases n with
  | zero=>cases hn;exact Cur.none
  | succ n=>exact Cur.cons (T:=zky C (o0::l) (e::es) k) (val:=zxc (e::es) k) (ih.1 n e' (by simpa using hn)) hy
theorem Evs.curE {all:Array Oper} {l:List Oper} {rows:List Row} {es:List (Ev U)} {E0 E':List (AV U)} {h0 h':za U} (r:Evs C all l rows es E0 h0 E' h') (t:Nat) (ht:t<E0.length):
 (∀(n:Nat) e,es[n]?=some e→e.E.length=E0.length∧∃c,Cur (· <n) (zrj l t) (ztn es) (E0.getD t .dead) c∧(e.E.getD t .dead=c∨e.E.getD t .dead= .dead))∧
 E'.length=E0.length∧∃c,Cur (· <l.length) (zrj l t) (ztn es) (E0.getD t .dead) c∧(E'.getD t .dead=c∨E'.getD t .dead= .dead):=by
 induction r with
 | nil h1=>exact⟨fun n e h1=>by simp at h1,h1.1,_,Cur.none,h1.2 t⟩
 | cons h1 h2 h3 ih=>
  rename_i o0 l row rows e es E0 E' h';have hlen:(zd0 e.E o0.dst e.v).length=E0.length:=by rw [zgy,h1.1]
  have ih:=ih (by rw [hlen];exact ht);have hy:∀{n:Nat} {c:AV U} {b:AV U},Cur (· <n) (zrj l t) (ztn es) ((zd0 e.E o0.dst e.v).getD t .dead) c→(b=c∨b= .dead)→
   ∃c',Cur (· <n+1) (zrj (o0::l) t) (ztn (e::es)) (E0.getD t .dead) c'∧(b=c'∨b= .dead):=by
   intro n c b hc hb
   by_cases hd:o0.dst=some t
   · exact⟨c,Cur.cons (T:=zrj (o0::l) t) (val:=ztn (e::es)) hc (.inl ⟨⟨o0,rfl,hd⟩,e,rfl,by rw [zic,if_pos ⟨hd,by rw [h1.1];exact ht⟩]⟩),hb⟩
   · rw [zo2 hd]at hc;have hT:¬zrj (o0::l) t 0:=fun⟨o,h4,h5⟩=>by cases h4;exact hd h5
     rcases h1.2 t with e1|e1
     · exact⟨c,Cur.cons (T:=zrj (o0::l) t) (val:=ztn (e::es)) hc (.inr ⟨hT,e1⟩),hb⟩
     · rw [e1]at hc;rcases hc with⟨i,g1,g2,g3,g4⟩|⟨g1,g2⟩
       · exact⟨c,Cur.cons (T:=zrj (o0::l) t) (val:=ztn (e::es)) (y:=E0.getD t .dead) (.inl ⟨i,g1,g2,g3,g4⟩) (.inr ⟨hT,rfl⟩),hb⟩
       · refine⟨E0.getD t .dead,Cur.cons (T:=zrj (o0::l) t) (val:=ztn (e::es)) (y:=E0.getD t .dead) (.inr ⟨g1,rfl⟩) (.inr ⟨hT,rfl⟩),.inr ?_⟩;rcases hb with rfl|hb
         · exact g2
         · exact hb
  refine⟨fun n e' hn=> ?_,ih.2.1.trans hlen,?_⟩
  · cases n with
    | zero=>
     cases hn;exact⟨h1.1,_,Cur.none,h1.2 t⟩
    | succ n=>
     obtain⟨g1,c,g2,g3⟩:=ih.1 n e' (by simpa using hn);exact⟨g1.trans hlen,hy g2 g3⟩
  · obtain⟨c,g2,g3⟩:=ih.2.2;exact hy g2 g3
theorem Evs.created {all:Array Oper} {l:List Oper} {rows:List Row} {es:List (Ev U)} {E0 E':List (AV U)} {h0 h':za U} (r:Evs C all l rows es E0 h0 E' h') {k i j:Nat} (hi:zo9 es k i) (hj:zo9 es k j):i=j:=by
 have key:∀i j,zo9 es k i→zo9 es k j→¬i<j:=by
  intro i j ⟨e,g1,g2,g3⟩ ⟨e',g4,g5,g6⟩ hlt;have hil:i<l.length:=by rw [←r.lens.2];exact(gea g1).1
  exact r.later (lga hil) g1 g4 hlt g3 g5
 have h1:=key i j hi hj
 have h2:=key j i hj hi
 omega
theorem Evs.made {all:Array Oper} {l:List Oper} {rows:List Row} {es:List (Ev U)} {E0 E':List (AV U)} {h0 h':za U} (r:Evs C all l rows es E0 h0 E' h') {k i j:Nat} {e:Ev U} (hi:es[i]?=some e) (hk:zc e.h k≠none) (hj:zo9 es k j):j<i:=by
 obtain⟨e',g4,g5,g6⟩:=hj
 rcases Nat.lt_trichotomy j i with hlt|heq|hlt
 · exact hlt
 · subst heq;rw [hi]at g4;cases g4;exact absurd g5 hk
 · have hil:i<l.length:=by rw [←r.lens.2];exact(gea hi).1
   have hrl:i<rows.length:=by rw [r.lens.1];exact hil
   have ok:=r.ok i _ _ _ (lga hil) (lga hrl) hi;exact absurd g5 (r.later (lga hil) hi g4 hlt (ok.keeps hk))
end
end Go.Amx
