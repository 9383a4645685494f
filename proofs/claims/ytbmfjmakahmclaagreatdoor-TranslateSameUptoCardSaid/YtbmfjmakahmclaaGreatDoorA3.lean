/- A machine that evaluates the program's form by typed values, and the proof that it is sound: part 3. -/
import Derived.Tactics
import Derived.Test.YtbmfjmakahmclaaGreatDoorA2
namespace Go.Amx
set_option linter.unusedVariables false
set_option linter.unusedSimpArgs false
section
variable {U:Uni} {C:Ctx U} {μ:Mp} {H:Fz} {E:List (AV U)} {h h':za U} {a:Act} {w:World} {o:Oper} {v:AV U}
theorem zwr (n m:Nat):(bit n).testBit m=decide (n=m):=by
 have hb:bit n=2^n:=by
  show Nat.shiftLeft 1 n=2^n;have:=Nat.one_shiftLeft n;exact this
 rw [hb]
 by_cases e:n=m
 · subst e;simp [Nat.testBit_two_pow_self]
 · simp [Nat.testBit_two_pow_of_ne e,e]
theorem zm7:∀(l:List Operand) (t:Nat),(zlq l).testBit t=true↔Operand.tmp t∈l
 | [],t=>by simp [zlq]
 | .tmp s::l,t=>by
  have:(Nat.lor (bit s) (zlq l)).testBit t=((bit s).testBit t||(zlq l).testBit t):=Nat.testBit_or ..;rw [zlq,this,zwr,Bool.or_eq_true,zm7 l t];simp [eq_comm]
 | .const c::l,t=>by rw [zlq,zm7 l t];simp;all_goals (intro s e;cases e)
 | .global c::l,t=>by rw [zlq,zm7 l t];simp;all_goals (intro s e;cases e)
 | .func c::l,t=>by rw [zlq,zm7 l t];simp;all_goals (intro s e;cases e)
def z43 (all:Array Oper) (o:Oper) (t:Nat):Prop:=Operand.tmp t∈o.op.operands∨∃g want,o.guard=some (g,want)∧(all[g]?).bind (·.dst)=some t
theorem zw2 {all:Array Oper} {t:Nat} (hl:z43 all o t):(zlj all o).testBit t=true:=by
 unfold zlj
 have:∀x y:Nat,(Nat.lor x y).testBit t=(x.testBit t||y.testBit t):=fun x y=>Nat.testBit_or ..
 rw [this,Bool.or_eq_true]
 rcases hl with h1|⟨g,want,h1,h2⟩
 · exact .inl ((zm7 _ _).2 (by simpa using h1))
 · right;rw [h1];simp only [h2,zwr,decide_true]
theorem zpu {t:Nat} (hd:o.dst=some t):(zmw o).testBit t=true:=by
 unfold zmw
 rw [hd]
 simp [zwr]
theorem zx7 {x y t:Nat} (h:Nat.beq (Nat.land x y) 0=true) (hx:x.testBit t=true) (hy:y.testBit t=true):False:=by
 have h1:=Nat.eq_of_beq_eq_true h
 have:(Nat.land x y).testBit t=(x.testBit t&&y.testBit t):=Nat.testBit_and ..
 rw [h1,hx,hy]at this
 simp at this
theorem z1q:∀(l:List Row) (y:Row) (n:Nat),zyy y n l=true→∀(i:Nat) x,l[i]?=some x→zx0 (n+i) x y=true
 | [],y,n,h,i,x,hx=>by simp at hx
 | z::l,y,n,h,i,x,hx=>by
  simp only [zyy,baa]at h;cases i with
  | zero=>cases hx;exact h.1
  | succ i=>
   have:=z1q l y (n+1) h.2 i x (by simpa using hx)
   rwa [show n+(i+1)=n+1+i by omega]
structure Free (all:Array Oper) (C:Ctx U) (x y:Oper) (e f:Ev U):Prop where
 dst:∀t,x.dst=some t→y.dst≠some t
 look:∀t,x.dst=some t→¬z43 all y t
 look':∀t,y.dst=some t→¬z43 all x t
 mem:e.ran=true→f.ran=true→zar C x=2→∀k,k∈zby C e.E e.h x→k∈zby C f.E f.h y→False
 mem':e.ran=true→f.ran=true→zar C y=2→∀k,k∈zby C e.E e.h x→k∈zby C f.E f.h y→False
theorem zwg {k:Nat} (hk:k∈zby C E h o):zar C o≠0:=by
 intro e
 unfold zby at hk
 rw [e]at hk
 simp at hk
theorem z9j {all:Array Oper} {x y:Oper} {rx ry:Row} {e f:Ev U} {i:Nat} (kx:zyu C all x rx e) (ky:zyu C all y ry f) (hp:zx0 i rx ry=true) (hb:ry.before.testBit i=false):Free all C x y e f:=by
 unfold zx0 at hp
 rw [hb,Bool.false_or]at hp
 simp only [baa,Bool.not_eq_true',kx.1,kx.2.1,ky.1,ky.2.1]at hp
 obtain⟨⟨h1,h2⟩,h3⟩:=hp
 have orl:∀{a b t:Nat},a.testBit t=true→(Nat.lor a b).testBit t=true:=fun {a b t} hh=>by
  have:(Nat.lor a b).testBit t=(a.testBit t||b.testBit t):=Nat.testBit_or ..;rw [this,hh,Bool.true_or]
 have orr:∀{a b t:Nat},b.testBit t=true→(Nat.lor a b).testBit t=true:=fun {a b t} hh=>by
  have:(Nat.lor a b).testBit t=(a.testBit t||b.testBit t):=Nat.testBit_or ..;rw [this,hh,Bool.or_true]
 have meet:e.ran=true→f.ran=true→∀k,k∈zby C e.E e.h x→k∈zby C f.E f.h y→rx.cls=zar C x∧ry.cls=zar C y∧meets rx ry=true:=by
  intro he hf k g1 g2;rcases kx.2.2 with⟨_,_,_,cx,_⟩|⟨hh,_⟩
  · rcases ky.2.2 with⟨_,_,_,cy,_⟩|⟨hh,_⟩
    · refine⟨cx.2.2.1,cy.2.2.1,?_⟩;unfold meets;rcases cx.2.2.2 with t1|t1
      · simp [t1]
      · rcases cy.2.2.2 with t2|t2
        · simp [t2]
        · simp only [Bool.or_eq_true,List.any_eq_true,List.contains_iff_mem];exact .inr ⟨k,t1 k g1,t2 k g2⟩
    · rw [hf]at hh;cases hh
  · rw [he]at hh;cases hh
 refine⟨fun t ht hy=>zx7 h1 (zpu ht) (orl (zpu hy)),fun t ht hy=>zx7 h1 (zpu ht) (orr (zw2 hy)),fun t ht hy=>zx7 h2 (zpu ht) (zw2 hy),fun he hf hc k g1 g2=> ?_,fun he hf hc k g1 g2=> ?_⟩
 · obtain⟨q1,q2,q3⟩:=meet he hf k g1 g2;rw [q3,q1,q2,hc,Bool.and_true]at h3;have:=zwg g2;simp [zca,this]at h3
 · obtain⟨q1,q2,q3⟩:=meet he hf k g1 g2;rw [q3,q1,q2,hc,Bool.and_true]at h3;have:=zwg g1;simp [zca,this]at h3
theorem z4x {seen:List Row} {b:Nat} (hb:(zqj seen o).testBit b=true):∃e∈o.after,Region.binds .any e=true∧(b=e.on∨∃r,seen[e.on]?=some r∧r.before.testBit b=true):=by
 have key:∀(l:List Edge) (m:Nat),(l.foldl (fun m e=>cond (Region.binds .any e) (Nat.lor m (Nat.lor (bit e.on) (match seen[e.on]? with|some r=>r.before|none=>0))) m) m).testBit b=true→
  m.testBit b=true∨∃e∈l,Region.binds .any e=true∧(b=e.on∨∃r,seen[e.on]?=some r∧r.before.testBit b=true):=by
  intro l
  induction l with
  | nil=>intro m h;exact .inl h
  | cons e l ih=>
   intro m h;rw [List.foldl_cons]at h;rcases ih _ h with h1|⟨e',h1,h2⟩
   · cases hbd:Region.binds .any e with
     | false=>rw [hbd]at h1;exact .inl h1
     | true=>
      rw [hbd]at h1;simp only [cond_true]at h1;have t1:∀x y:Nat,(Nat.lor x y).testBit b=(x.testBit b||y.testBit b):=fun x y=>Nat.testBit_or ..;rw [t1,t1,Bool.or_eq_true,Bool.or_eq_true,zwr]at h1;rcases h1 with h1|h1|h1
      · exact .inl h1
      · exact .inr ⟨e,msa,hbd,.inl (by simpa using(of_decide_eq_true h1).symm)⟩
      · refine .inr ⟨e,msa,hbd,.inr ?_⟩;split at h1
        · exact⟨_,by assumption,h1⟩
        · simp at h1
   · exact .inr ⟨e',mca _ h1,h2⟩
 unfold zqj at hb
 rcases key _ _ hb with h1|⟨e,h1,h2⟩
 · simp at h1
 · exact⟨e,by simpa using h1,h2⟩
end
section
variable {U:Uni} {C:Ctx U} {μ:Mp} {H:Fz} {E:List (AV U)} {h h':za U} {a:Act} {w:World} {o:Oper} {v:AV U}
theorem V.known {En:Enc U} {μ:Mp} {H:Fz} {av:AV U} {v:Value} (h:V En μ H av v) {k:Nat} (hk:k∈zdn av):μ k≠none:=by
 have one:∀{c:AV U} {u:Value},V En μ H c u→k∈zc4 c→μ k≠none:=by
  intro c u hc hk;cases hc with
  | ptr hl _ _=>simp [zc4]at hk;subst hk;rw [hl];simp
  | eptr hl _ _ _ _=>simp [zc4]at hk;subst hk;rw [hl];simp
  | ixp hl _ _ _=>simp [zc4]at hk;subst hk;rw [hl];simp
  | own hl _ _ _ _=>simp [zc4]at hk;subst hk;rw [hl];simp
  | _=>simp [zc4]at hk
 have many:∀{cs:List (AV U)} {vs:Array Value},(∀(j:Nat) c,cs[j]?=some c→V En μ H c (vs.getD j undef))→k∈cs.flatMap zc4→μ k≠none:=by
  intro cs vs hh hk;obtain⟨c,hc,hk⟩:=List.mem_flatMap.1 hk;obtain⟨j,hj⟩:=List.getElem?_of_mem hc;exact one (hh j c hj) hk
 have h':=h
 cases h with
 | agg hn hv=>exact many hv hk
 | fn hn hv=>exact many hv hk
 | tup hn hv=>exact many hv hk
 | _=>exact one h' hk
theorem z18 {h:za U} {k:Nat}:∀(ks:List Nat),k∈zk8 h ks→∃k1∈ks,∃cs,zc h k1=some (.box cs)∧k∈cs.flatMap zdn
 | [],hk=>by simp [zk8]at hk
 | k1::ks,hk=>by
  have rest:k∈zk8 h ks→∃k2∈k1::ks,∃cs,zc h k2=some (.box cs)∧k∈cs.flatMap zdn:=fun hh=>by
   obtain⟨k2,h1,h2⟩:=z18 ks hh;exact⟨k2,mca _ h1,h2⟩
  unfold zk8 at hk;split at hk
  · rename_i cs hg;rcases mpa hk with hk|hk
    · exact⟨k1,msa,cs,hg,hk⟩
    · exact rest hk
  · exact rest hk
theorem z2d (p:Pre C μ H E h a w o) {k:Nat} (hk:k∈zby C E h o):μ k≠none:=by
 have hc:=zwg hk
 have hfe:zby C E h o=(o.op.operands.toList.flatMap fun x=>zdn (opv C E x))++(zk8 h (o.op.operands.toList.flatMap fun x=>zdn (opv C E x))++zk8 h (zk8 h (o.op.operands.toList.flatMap fun x=>zdn (opv C E x)))):=by
  unfold zby;split
  · rename_i e;exact absurd e hc
  · rfl
 have base:∀{k:Nat},k∈(o.op.operands.toList.flatMap fun x=>zdn (opv C E x))→μ k≠none:=by
  intro k hk;obtain⟨x,hx,hk⟩:=List.mem_flatMap.1 hk;exact(p.ops x (by simpa using hx)).known hk
 have lvl:∀{ks:List Nat},(∀k1∈ks,k1∈zby C E h o∧μ k1≠none)→∀{k:Nat},k∈zk8 h ks→μ k≠none:=by
  intro ks hks k hk;obtain⟨k1,h1,cs,h2,h3⟩:=z18 _ hk;obtain⟨hf,hn⟩:=hks k1 h1;obtain⟨l1,hl1⟩:=Option.ne_none_iff_exists'.1 hn;obtain⟨ob,h4,h5⟩:=p.foot k1 hf l1 hl1;rw [h2]at h4;cases h4;obtain⟨c,hc,hk⟩:=List.mem_flatMap.1 h3;obtain⟨j,hj⟩:=List.getElem?_of_mem hc;obtain⟨_,_,b,o',_,_,h8⟩:=h5;obtain⟨u,_,_,hV⟩:=h8 j c hj;exact hV.known hk
 have lvl1:∀{k:Nat},k∈zk8 h (o.op.operands.toList.flatMap fun x=>zdn (opv C E x))→μ k≠none:=fun hk=>
  lvl (fun k1 h1=>⟨by rw [hfe];exact mla _ h1,base h1⟩) hk
 rw [hfe]at hk
 rcases mpa hk with hk|hk
 · exact base hk
 · rcases mpa hk with hk|hk
   · exact lvl1 hk
   · exact lvl (fun k1 h1=>⟨by rw [hfe];exact mra _ (mla _ h1),lvl1 h1⟩) hk
structure Inv (C:Ctx U) (l:List Oper) (rows:List Row) (es:List (Ev U)) (E0:List (AV U)) (h0:za U) (μs:Mp) (Hs:Fz) (ws:World) (S:Nat→Prop) (μ:Mp) (H:Fz) (a:Act) (w:World):Prop where
 env:∀t,t<E0.length→∀c,Cur S (zrj l t) (ztn es) (E0.getD t .dead) c→V C.En μ H c (a.eval (.tmp t))
 size:E0.length=a.tmps.size
 mem:Mem μ H w
 obj:∀k lc,μ k=some lc→∀x,Cur S (zky C l es k) (zxc es k) (zc h0 k) x→∃ob,x=some ob∧zcl C.En μ H w lc ob
 dom:∀k lc,μ k=some lc→∀i,zo9 es k i→S i
 foot:∀(j:Nat) o e,S j→l[j]?=some o→es[j]?=some e→e.ran=true→∀k∈zby C e.E e.h o,∀i,zo9 es k i→S i
 glob:GOK C H w
 defers:a.defers=[]
 closed:∀(j:Nat) r,S j→rows[j]?=some r→∀b,r.before.testBit b=true→S b
 since:zfb C.ro μs Hs ws μ H w
variable {l:List Oper} {rows:List Row} {es:List (Ev U)} {E0 E':List (AV U)} {h0:za U} {μs:Mp} {Hs:Fz} {ws:World} {S:Nat→Prop} {all:Array Oper}
theorem zrh (ch:zks [] rows l) (hcl:∀(j:Nat) r,S j→rows[j]?=some r→∀b,r.before.testBit b=true→S b) {i:Nat} {o:Oper} {row:Row} (hl:l[i]?=some o) (hr:rows[i]?=some row)
 (haf:∀e∈o.after,Region.binds .any e=true→S e.on):∀b,row.before.testBit b=true→S b:=by
 intro b hb
 have h1:=(ch.ok i o row hl hr).1
 rw [h1]at hb
 obtain⟨e,h2,h3,h4⟩:=z4x hb
 rcases h4 with rfl|⟨r,h4,h5⟩
 · exact haf e h2 h3
 · have h6:rows[e.on]?=some r:=by
    simp only [List.nil_append]at h4;rw [List.getElem?_take]at h4;split at h4
    · exact h4
    · cases h4
   exact hcl _ r (haf e h2 h3) h6 b h5
structure Ready (all:Array Oper) (C:Ctx U) (l:List Oper) (es:List (Ev U)) (S:Nat→Prop) (i:Nat) (o:Oper) (e:Ev U):Prop where
 ahead:∀(j:Nat) o' e',j<i→¬S j→l[j]?=some o'→es[j]?=some e'→Free all C o' o e' e
 behind:∀(j:Nat) o' e',i<j→S j→l[j]?=some o'→es[j]?=some e'→Free all C o o' e e'
theorem z0g (r:Evs C all l rows es E0 h0 E' h') (ch:zks [] rows l) (hcl:∀(j:Nat) r,S j→rows[j]?=some r→∀b,r.before.testBit b=true→S b) {i:Nat} {o:Oper} {e:Ev U} (hl:l[i]?=some o) (he:es[i]?=some e) (hi:¬S i)
 (haf:∀e∈o.after,Region.binds .any e=true→S e.on):Ready all C l es S i o e:=by
 have hrow:∀{j:Nat} {o':Oper},l[j]?=some o'→∃row,rows[j]?=some row:=fun {j o'} hj=>by
  have:j<rows.length:=by rw [r.lens.1];exact(gea hj).1
  exact⟨_,lga this⟩
 obtain⟨row,hr⟩:=hrow hl
 have pair:∀{j k:Nat} {oj:Oper} {rj rk:Row},j<k→rows[j]?=some rj→rows[k]?=some rk→l[k]?=some oj→zx0 j rj rk=true:=by
  intro j k oj rj rk hjk g1 g2 g3;have:=z1q _ _ 0 (ch.ok k oj rk g3 g2).2 j rj (by simp only [List.nil_append];rw [List.getElem?_take,if_pos hjk];exact g1);simpa using this
 refine⟨fun j o' e' hji hS hlj hej=> ?_,fun j o' e' hij hS hlj hej=> ?_⟩
 · obtain⟨row',hr'⟩:=hrow hlj;refine z9j (r.ok j _ _ _ hlj hr' hej) (r.ok i _ _ _ hl hr he) (pair hji hr' hr hl) ?_;cases hb:row.before.testBit j with
   | false=>rfl
   | true=>exact absurd (zrh ch hcl hl hr haf j hb) hS
 · obtain⟨row',hr'⟩:=hrow hlj;refine z9j (r.ok i _ _ _ hl hr he) (r.ok j _ _ _ hlj hr' hej) (pair hij hr hr' hlj) ?_;cases hb:row'.before.testBit i with
   | false=>rfl
   | true=>exact absurd (hcl j row' hS hr' i hb) hi
theorem Inv.slot (I:Inv C l rows es E0 h0 μs Hs ws S μ H a w) (r:Evs C all l rows es E0 h0 E' h') {i:Nat} {o:Oper} {e:Ev U} (hl:l[i]?=some o) (he:es[i]?=some e) (hi:¬S i) (R:Ready all C l es S i o e) {t:Nat} (ht:z43 all o t):V C.En μ H (e.E.getD t .dead) (a.eval (.tmp t)):=by
 by_cases htl:t<E0.length
 · obtain⟨hlen,c,hc,hd⟩:=(r.curE t htl).1 i e he;rcases hd with hd|hd
   · rw [hd];refine I.env t htl c (hc.congr fun j hT=> ?_);obtain⟨o',h1,h2⟩:=hT;have hjl:j<es.length:=by rw [r.lens.2];exact(gea h1).1
     constructor
     · intro hji;refine Classical.byContradiction fun hS=> ?_;exact(R.ahead j o' _ hji hS h1 (lga hjl)).look t h2 ht
     · intro hS;refine Classical.byContradiction fun hji=> ?_;have:j≠i:=fun e=>hi (e▸hS);exact(R.behind j o' _ (by omega) hS h1 (lga hjl)).look' t h2 ht
   · rw [hd];exact .dead _
 · have hlen:e.E.length=E0.length:=by
    by_cases h0:0<E0.length
    · exact((r.curE 0 h0).1 i e he).1
    · have key:∀{l:List Oper} {rows:List Row} {es:List (Ev U)} {E0 E':List (AV U)} {h0 h':za U},Evs C all l rows es E0 h0 E' h'→∀(i:Nat) e,es[i]?=some e→e.E.length=E0.length:=by
       intro l rows es E0 E' h0 h' r
       induction r with
       | nil=>intro i e h1;simp at h1
       | cons g1 g2 g3 ih=>
        intro i e h1;cases i with
        | zero=>cases h1;exact g1.1
        | succ i=>rw [ih i e (by simpa using h1),zgy,g1.1]
      exact key r i e he
   rw [gda,List.getElem?_eq_none (by omega)];exact .dead _
theorem Inv.pre (I:Inv C l rows es E0 h0 μs Hs ws S μ H a w) (r:Evs C all l rows es E0 h0 E' h') {i:Nat} {o:Oper} {e:Ev U} (hl:l[i]?=some o) (he:es[i]?=some e) (hi:¬S i) (R:Ready all C l es S i o e)
 (hran:e.ran=true) (hst:∀k∈zby C e.E e.h o,zc e.h k≠none):Pre C μ H e.E e.h a w o where
 ops:=fun x hx=>zwd (fun t ht=>I.slot r hl he hi R (.inl (ht▸hx))) I.glob
 mem:=I.mem
 glob:=I.glob
 foot:=fun k hk lc hlc=>by
  refine(I.obj k lc hlc (zc e.h k) (((r.curH k).1 i e he).congr fun j hT=> ?_)).imp fun ob hh=>hh;have hT':=hT;obtain⟨o',e',h1,h2,h3⟩:=hT;constructor
  · intro hji;rcases h3 with⟨h3,h4⟩|h3
    · refine Classical.byContradiction fun hS=> ?_;exact(R.ahead j o' e' hji hS h1 h2).mem h3 hran h4.1 k h4.2.1 hk
    · exact I.dom k lc hlc j ⟨e',h2,h3⟩
  · intro hS;refine Classical.byContradiction fun hji=> ?_;have hne:j≠i:=fun e=>hi (e▸hS);rcases h3 with⟨h3,h4⟩|h3
    · exact(R.behind j o' e' (by omega) hS h1 h2).mem' hran h3 h4.1 k hk h4.2.1
    · exact hji (r.made he (hst k hk) ⟨e',h2,h3⟩)
end
section
variable {U:Uni} {C:Ctx U} {μ:Mp} {H:Fz} {E:List (AV U)} {h h':za U} {a:Act} {w:World} {o:Oper} {v:AV U}
variable {l:List Oper} {rows:List Row} {es:List (Ev U)} {E0 E':List (AV U)} {h0:za U} {μs:Mp} {Hs:Fz} {ws:World} {S:Nat→Prop} {all:Array Oper}
def z3j (S:Nat→Prop) (i:Nat):Nat→Prop:=fun j=>S j∨j=i
theorem Inv.env' (I:Inv C l rows es E0 h0 μs Hs ws S μ H a w) (r:Evs C all l rows es E0 h0 E' h') {i:Nat} {o:Oper} {e:Ev U} (hl:l[i]?=some o) (he:es[i]?=some e) (hi:¬S i) (R:Ready all C l es S i o e)
 {μ':Mp} {H':Fz} {cv:Value} (hH:H.le H') (hμ:μ.le μ') (hV:V C.En μ' H' e.v cv):∀t,t<E0.length→∀c,Cur (z3j S i) (zrj l t) (ztn es) (E0.getD t .dead) c→V C.En μ' H' c ((a.put o.dst cv).eval (.tmp t)):=by
 intro t ht c hc
 rw [z0w,←I.size]
 by_cases hd:o.dst=some t
 · rw [if_pos ⟨hd,ht⟩];have hsi:zrj l t i:=⟨o,hl,hd⟩;rcases hc with⟨j,h1,h2,h3,h4⟩|⟨h1,_⟩
   · have hij:=h3 i (.inr rfl) hsi;have:j=i:=by
      rcases h1 with h1|h1
      · refine Classical.byContradiction fun hne=> ?_;obtain⟨o',g1,g2⟩:=h2;have hjl:j<es.length:=by rw [r.lens.2];exact(gea g1).1
        exact(R.behind j o' _ (by omega) h1 g1 (lga hjl)).dst t hd g2
      · exact h1
     subst this;obtain⟨e',g1,g2⟩:=h4;rw [he]at g1;cases g1;rw [g2];exact hV
   · exact absurd hsi (h1 i (.inr rfl))
 · rw [if_neg (fun hh=>hd hh.1)];refine(I.env t ht c (hc.congr fun j hT=> ?_)).mono hH hμ;constructor
   · rintro (h1|h1)
     · exact h1
     · subst h1;obtain⟨o',g1,g2⟩:=hT;rw [hl]at g1;cases g1;exact absurd g2 hd
   · exact .inl
theorem Inv.obj' (L:ELaws C.En) (I:Inv C l rows es E0 h0 μs Hs ws S μ H a w) (r:Evs C all l rows es E0 h0 E' h') {i:Nat} {o:Oper} {e:Ev U} (hl:l[i]?=some o) (he:es[i]?=some e) (hi:¬S i) (R:Ready all C l es S i o e) (hran:e.ran=true)
 {μ':Mp} {H':Fz} {w':World} (A:After C (zg6 C e.E e.h o) μ H e.h w e.h1 μ' H' w'):
 ∀k lc,μ' k=some lc→∀x,Cur (z3j S i) (zky C l es k) (zxc es k) (zc h0 k) x→∃ob,x=some ob∧zcl C.En μ' H' w' lc ob:=by
 intro k lc hk x hx
 by_cases hT:zky C l es k i
 · have hT2:zg6 C e.E e.h o k∨(zc e.h k=none∧zc e.h1 k≠none):=by
    obtain⟨o',e',g1,g2,g3⟩:=hT;rw [hl]at g1;rw [he]at g2;cases g1;cases g2;exact g3.imp (fun hh=>hh.2) id
   have hxi:x=zc e.h1 k:=by
    rcases hx with⟨j,h1,h2,h3,h4⟩|⟨h1,_⟩
    · have hij:=h3 i (.inr rfl) hT;have:j=i:=by
       rcases h1 with h1|h1
       · refine Classical.byContradiction fun hne=> ?_;obtain⟨o',e',g1,g2,g3⟩:=h2;have F:=R.behind j o' e' (by omega) h1 g1 g2;rcases g3 with⟨g3,g4⟩|g3
         · rcases hT2 with t1|t1
           · exact F.mem hran g3 t1.1 k t1.2.1 g4.2.1
           · exact hi (I.foot j o' e' h1 g1 g2 g3 k g4.2.1 i ⟨e,he,t1⟩)
         · rcases hT2 with t1|t1
           ·
            rcases(r.ok i o _ e hl (lga (by rw [r.lens.1];exact(gea hl).1)) he).2.2 with⟨_,_,_,_,hst⟩|⟨hh,_⟩
            · have:=r.made he (hst k t1.2.1) ⟨e',g2,g3⟩;omega
            · rw [hran]at hh;cases hh
           · exact hne (r.created ⟨e',g2,g3⟩ ⟨e,he,t1⟩)
       · exact h1
      subst this;obtain⟨e',g1,g2⟩:=h4;rw [he]at g1;cases g1;exact g2
    · exact absurd hT (h1 i (.inr rfl))
   subst hxi;exact A.objs k lc hT2 hk
 · have hT2:¬(zg6 C e.E e.h o k∨(zc e.h k=none∧zc e.h1 k≠none)):=fun hh=>hT ⟨o,e,hl,he,hh.imp (fun q=>⟨hran,q⟩) id⟩;have hs:=A.same k (fun q=>hT2 (.inl q)) (fun q=>hT2 (.inr q));rw [hs.1]at hk;have hx':Cur S (zky C l es k) (zxc es k) (zc h0 k) x:=hx.congr fun j hTj=>by
    constructor
    · rintro (h1|h1)
      · exact h1
      · subst h1;exact absurd hTj hT
    · exact .inl
   obtain⟨ob,g1,g2⟩:=I.obj k lc hk x hx';refine⟨ob,g1,g2.keep L A.wd A.leH A.leM fun b o' hh ⟨k2,l2,f1,f2,f3⟩=> ?_⟩;have:=I.mem.apart _ _ _ _ _ _ hk f2 hh f3;subst this;exact hT2 (.inl f1)
theorem Inv.go (L:ELaws C.En) (I:Inv C l rows es E0 h0 μs Hs ws S μ H a w) (r:Evs C all l rows es E0 h0 E' h') (ch:zks [] rows l) {i:Nat} {o:Oper} {e:Ev U} (hl:l[i]?=some o) (he:es[i]?=some e) (hi:¬S i) (haf:∀e∈o.after,Region.binds .any e=true→S e.on) (hran:e.ran=true)
 {next:Act→World→Prop} {Q:Exit→Act→World→Prop} (hn:∀μ' H' a' w',Inv C l rows es E0 h0 μs Hs ws (z3j S i) μ' H' a' w'→next a' w'):o.wp C.P a w next Q:=by
 have R:=z0g r ch I.closed hl he hi haf
 have hil:i<rows.length:=by rw [r.lens.1];exact(gea hl).1
 have hrow:rows[i]?=some rows[i]:=lga hil
 rcases(r.ok i _ _ _ hl hrow he).2.2 with⟨_,_,gd,_,hst⟩|⟨hh,_⟩
 · have p:=I.pre r hl he hi R hran hst;have hdom:∀k,zc e.h k=none→zc e.h1 k≠none→μ k=none:=fun k h1 h2=>by
    cases hq:μ k with
    | none=>rfl
    | some lc=>exact absurd (I.dom k lc hq i ⟨e,he,h1,h2⟩) hi
   refine gd.2.1 μ H a w p hdom next Q fun cv μ' H' w' hV A=>hn μ' H' _ w' ?_
   have hcl:=zrh ch I.closed hl hrow haf;refine {
    env:=I.env' r hl he hi R A.leH A.leM hV
    size:=by rw [zvi];exact I.size
    mem:=A.mem
    obj:=I.obj' L r hl he hi R hran A
    dom:=fun k lc hk j hj=> ?_
    foot:=fun j o' e' hj g1 g2 g3 k hk j2 hj2=> ?_
    glob:=(I.glob.mono A.leH).step A.wd
    defers:=by cases o.dst<;>exact I.defers
    closed:=fun j r' hj g1 b hb=> ?_
    since:=I.since.after I.mem (fun k hk=>hk.2.2) A}
   · by_cases hc:zc e.h k=none∧zc e.h1 k≠none
     · exact .inr (r.created hj ⟨e,he,hc⟩)
     · by_cases hw:zg6 C e.E e.h o k
       · obtain⟨lc0,hq⟩:=Option.ne_none_iff_exists'.1 (z2d p hw.2.1);exact .inl (I.dom k lc0 hq j hj)
       · rw [(A.same k hw hc).1]at hk;exact .inl (I.dom k lc hk j hj)
   · rcases hj with hj|rfl
     · exact .inl (I.foot j o' e' hj g1 g2 g3 k hk j2 hj2)
     · rw [hl]at g1;rw [he]at g2;cases g1;cases g2;obtain⟨lc0,hq⟩:=Option.ne_none_iff_exists'.1 (z2d p hk);exact .inl (I.dom k lc0 hq j2 hj2)
   · rcases hj with hj|rfl
     · exact .inl (I.closed j r' hj g1 b hb)
     · rw [hrow]at g1;cases g1;exact .inl (hcl b hb)
 · rw [hran]at hh;cases hh
theorem Inv.pass (L:ELaws C.En) (I:Inv C l rows es E0 h0 μs Hs ws S μ H a w) (r:Evs C all l rows es E0 h0 E' h') (ch:zks [] rows l) {i:Nat} {o:Oper} {e:Ev U} (hl:l[i]?=some o) (he:es[i]?=some e) (hi:¬S i) (haf:∀e∈o.after,Region.binds .any e=true→S e.on) (hran:e.ran=false):
 Inv C l rows es E0 h0 μs Hs ws (z3j S i) μ H (a.put o.dst undef) w:=by
 have R:=z0g r ch I.closed hl he hi haf
 have hil:i<rows.length:=by rw [r.lens.1];exact(gea hl).1
 have hrow:rows[i]?=some rows[i]:=lga hil
 rcases(r.ok i _ _ _ hl hrow he).2.2 with⟨hh,_⟩|⟨_,hv,hh1,_⟩
 · rw [hran]at hh;cases hh
 · have hcl:=zrh ch I.closed hl hrow haf;have hno:∀k,¬zky C l es k i:=fun k ⟨o',e',g1,g2,g3⟩=>by
    rw [he]at g2;cases g2;rcases g3 with⟨g3,_⟩|⟨g3,g4⟩
    · rw [hran]at g3;cases g3
    · rw [hh1]at g4;exact g4 g3
   refine {
    env:=I.env' r hl he hi R H.le_refl μ.le_refl (by rw [hv];exact .sc _)
    size:=by rw [zvi];exact I.size
    mem:=I.mem
    obj:=fun k lc hk x hx=>I.obj k lc hk x (hx.congr fun j hT=> ?_)
    dom:=fun k lc hk j hj=> .inl (I.dom k lc hk j hj)
    foot:=fun j o' e' hj g1 g2 g3 k hk j2 hj2=> ?_
    glob:=I.glob
    defers:=by cases o.dst<;>exact I.defers
    closed:=fun j r' hj g1 b hb=> ?_
    since:=I.since}
   · constructor
     · rintro (h1|h1)
       · exact h1
       · subst h1;exact absurd hT (hno k)
     · exact .inl
   · rcases hj with hj|rfl
     · exact .inl (I.foot j o' e' hj g1 g2 g3 k hk j2 hj2)
     · rw [he]at g2;cases g2;rw [hran]at g3;cases g3
   · rcases hj with hj|rfl
     · exact .inl (I.closed j r' hj g1 b hb)
     · rw [hrow]at g1;cases g1;exact .inl (hcl b hb)
theorem zadb {a:Act} {d:Nat} {u:Value} (h:a.eval (.tmp d)=u) (hu:u≠undef):a.tmps[d]?=some u:=by
 simp only [Act.eval]at h
 rw [agd]at h
 cases hq:a.tmps[d]? with
 | none=>rw [hq]at h;exact absurd h.symm hu
 | some x=>rw [hq]at h;simp at h;rw [h]
theorem Inv.wanted (I:Inv C l rows es E0 h0 μs Hs ws S μ H a w) (r:Evs C all l rows es E0 h0 E' h') {i:Nat} {o:Oper} {e:Ev U} (hl:l[i]?=some o) (he:es[i]?=some e) (hi:¬S i) (R:Ready all C l es S i o e):Region.wanted o (yielded all a.tmps)=e.ran:=by
 have hil:i<rows.length:=by rw [r.lens.1];exact(gea hl).1
 have hlen:e.E.length=E0.length:=by
  by_cases h0:0<E0.length
  · exact((r.curE 0 h0).1 i e he).1
  · have key:∀{l:List Oper} {rows:List Row} {es:List (Ev U)} {E0 E':List (AV U)} {h0 h':za U},Evs C all l rows es E0 h0 E' h'→∀(i:Nat) e,es[i]?=some e→e.E.length=E0.length:=by
     intro l rows es E0 E' h0 h' r
     induction r with
     | nil=>intro i e h1;simp at h1
     | cons g1 g2 g3 ih=>
      intro i e h1;cases i with
      | zero=>cases h1;exact g1.1
      | succ i=>rw [ih i e (by simpa using h1),zgy,g1.1]
    exact key r i e he
 rcases(r.ok i _ _ _ hl (lga hil) he).2.2 with⟨hh,hg,_⟩|⟨hh,_,_,g,want,d,hg,hd,hs⟩
 · rw [hh];unfold Region.wanted;cases hq:o.guard with
   | none=>rfl
   | some p=>
    obtain⟨g,want⟩:=p;obtain⟨d,h1,h2⟩:=hg g want hq;have hv:=(h2▸I.slot r hl he hi R (t:=d) (.inr ⟨g,want,hq,h1⟩)).int;have:=zadb hv (by simp [undef]);have hy:yielded all a.tmps g=some want:=by
     unfold yielded;rw [h1];simp only [obz,this]
    simp [hy]
 · rw [hh];have key:yielded all a.tmps g≠some want:=by
    unfold yielded;rw [hd];simp only [obz];rcases hs with⟨u,h2,h3⟩|h2
    · have hv:=(h2▸I.slot r hl he hi R (t:=d) (.inr ⟨g,want,hg,hd⟩)).int;simp only [Act.eval]at hv;rw [agd]at hv;cases hq:a.tmps[d]? with
      | none=>simp
      | some x=>
       rw [hq]at hv;simp at hv;subst hv;split
       · rename_i b e;cases e;intro hh;cases hh;exact h3 rfl
       · simp
    · rw [hlen,I.size]at h2;rw [Array.getElem?_eq_none h2];simp
   unfold Region.wanted;rw [hg];simpa using key
end
section
variable {U:Uni} {C:Ctx U} {μ:Mp} {H:Fz} {E:List (AV U)} {h h':za U} {a:Act} {w:World} {o:Oper} {v:AV U}
variable {l:List Oper} {rows:List Row} {es:List (Ev U)} {E0 E':List (AV U)} {h0:za U} {μs:Mp} {Hs:Fz} {ws:World} {S:Nat→Prop} {all:Array Oper}
theorem zuw:∀(l:List Oper) (n:Nat),zo7 n l=true→∀(i:Nat) o,l[i]?=some o→∀e∈o.after,Region.binds .any e=true→e.on<n+i
 | [],n,h,i,o,hi=>by simp at hi
 | o0::l,n,h,i,o,hi=>by
  simp only [zo7,baa]at h;cases i with
  | zero=>
   cases hi;intro e he hb;have:=lat h.1.1 e (by simpa using he);rw [hb]at this;rw [Bool.not_true,Bool.false_or,Nat.blt_eq]at this;simpa using this
  | succ i=>
   intro e he hb;have:=zuw l (n+1) h.2 i o (by simpa using hi) e he hb;omega
theorem zabq {ops:Array Oper} {listed:Array Bool} (hb:zo7 0 ops.toList=true) (hs:listed.size=ops.size) (hr:Region.ready .any ops listed=[]):∀j,j<ops.size→listed.getD j false=true:=by
 intro j
 induction j using Nat.strongRecOn with
 | _ j ih=>
  intro hj;cases hq:listed.getD j false with
  | true=>rfl
  | false=>
   have hm:j∈Region.ready .any ops listed:=by
    rw [mem_ready];refine⟨?_,ops[j],Array.getElem?_eq_getElem hj,fun e he hbd=> ?_⟩
    · have hjl:j<listed.size:=by omega
      simp [Array.getD,hjl]at hq⊢;exact hq
    · have:=zuw _ _ hb j ops[j] (by simp [hj]) e he hbd;exact ih e.on (by omega) (by omega)
   rw [hr]at hm;cases hm
theorem Inv.congr {S':Nat→Prop} (I:Inv C l rows es E0 h0 μs Hs ws S μ H a w) (hs:∀j,S j↔S' j):Inv C l rows es E0 h0 μs Hs ws S' μ H a w:=by
 have:S=S':=funext fun j=>propext (hs j)
 rw [←this]
 exact I
theorem Evs.len {l:List Oper} {rows:List Row} {es:List (Ev U)} {E0 E':List (AV U)} {h0 h':za U} (r:Evs C all l rows es E0 h0 E' h'):E'.length=E0.length:=by
 induction r with
 | nil h1=>exact h1.1
 | cons g1 g2 g3 ih=>rw [ih,zgy,g1.1]
theorem Inv.done (I:Inv C l rows es E0 h0 μs Hs ws S μ H a w) (r:Evs C all l rows es E0 h0 E' h') (hall:∀j,j<l.length→S j):St C μ H E' h' a w:=by
 have hlen:E'.length=E0.length:=r.len
 refine {
  env:=fun t=> ?_
  size:=hlen.trans I.size
  sim:={toMem:=I.mem,obj:=fun k lc hk=>I.obj k lc hk _ ((r.curH k).2.congr fun j hT=> ?_)|>.imp fun ob hh=>⟨hh.1,hh.2⟩}
  glob:=I.glob
  defers:=I.defers}
 · by_cases ht:t<E0.length
   · obtain⟨_,c,hc,hd⟩:=(r.curE t ht).2;rcases hd with hd|hd
     · rw [hd];refine I.env t ht c (hc.congr fun j hT=> ?_);obtain⟨o',g1,g2⟩:=hT;have hj:j<l.length:=(gea g1).1;exact⟨fun _=>hall j hj,fun _=>hj⟩
     · rw [hd];exact .dead _
   · rw [gda,List.getElem?_eq_none (by omega)];exact .dead _
 · obtain⟨o',e',g1,g2,g3⟩:=hT;have hj:j<l.length:=(gea g1).1;exact⟨fun _=>hall j hj,fun _=>hj⟩
theorem z4j {listed:Array Bool} {i:Nat} (hi:i<listed.size) (hf:listed.getD i true=false):(listed.setIfInBounds i true).countP (fun b=> !b)+1=listed.countP (fun b=> !b):=by
 have h1:listed[i]=false:=by simpa [Array.getD,hi]using hf
 have hpos:0<listed.countP (fun b=> !b):=by
  rw [Array.countP_pos_iff];exact⟨listed[i],Array.getElem_mem hi,by rw [h1];rfl⟩
 have:listed.setIfInBounds i true=listed.set i true hi:=by simp [Array.setIfInBounds,hi]
 rw [this,Array.countP_set hi,h1]
 simp
 omega
theorem zadw (L:ELaws C.En) {ops:Array Oper} (hb:zo7 0 ops.toList=true) (r:Evs C ops ops.toList rows es E0 h0 E' h') (ch:zks [] rows ops.toList) {Q:Exit→Act→World→Prop} (hq:∀μ' H' a' w',St C μ' H' E' h' a' w'→zfb C.ro μs Hs ws μ' H' w'→Q .normal a' w'):
 ∀(fuel:Nat) (listed:Array Bool) {μ:Mp} {H:Fz} (a:Act) (w:World),listed.size=ops.size→listed.countP (fun b=> !b)≤fuel→Inv C ops.toList rows es E0 h0 μs Hs ws (fun j=>listed.getD j false=true) μ H a w→wpAny C.P .any ops Q fuel listed a w:=by
 intro fuel
 have fin:∀(listed:Array Bool) {μ:Mp} {H:Fz} (a:Act) (w:World),listed.size=ops.size→Region.ready .any ops listed=[]→Inv C ops.toList rows es E0 h0 μs Hs ws (fun j=>listed.getD j false=true) μ H a w→Q .normal a w:=
  fun listed μ H a w hs hr I=>hq μ H a w (I.done r fun j hj=>zabq hb hs hr j (by simpa using hj)) I.since
 induction fuel with
 | zero=>
  intro listed μ H a w hs hc I;have hr:Region.ready .any ops listed=[]:=by
   refine List.eq_nil_iff_forall_not_mem.2 fun i hi=> ?_;obtain⟨h1,o,h2,_⟩:=mem_ready.1 hi;have hil:i<listed.size:=by rw [hs];exact(Array.getElem?_eq_some_iff.1 h2).1
   have:=z4j hil h1;omega
  exact⟨hr,fin listed a w hs hr I⟩
 | succ fuel ih=>
  intro listed μ H a w hs hc I;refine⟨fun hr=>fin listed a w hs hr I,fun i hi=> ?_⟩;obtain⟨h1,o,h2,h3⟩:=mem_ready.1 hi;have hio:i<ops.size:=(Array.getElem?_eq_some_iff.1 h2).1;have hil:i<listed.size:=by omega
  have hl:ops.toList[i]?=some o:=by rw [Array.getElem?_toList];exact h2
  have hie:i<es.length:=by rw [r.lens.2];simpa using hio
  have he:es[i]?=some es[i]:=lga hie;have hni:¬listed.getD i false=true:=by
   have:listed[i]=false:=by simpa [Array.getD,hil]using h1
   simp [Array.getD,hil,this]
  have R:=z0g (all:=ops) r ch I.closed hl he hni h3;have hcnt:=z4j hil h1;have hS:∀j,z3j (fun j=>listed.getD j false=true) i j↔(listed.setIfInBounds i true).getD j false=true:=by
   intro j;unfold z3j;constructor
   · rintro (hj|hj)
     · exact getD_set_true hj
     · subst hj;simp [hil]
   · intro hj
     by_cases e:j=i
     · exact .inr e
     · rw [getD_set_ne false (fun x=>e x.symm)]at hj;exact .inl hj
  unfold wpOp;rw [h2];simp only;cases hran:es[i].ran with
  | true=>
   rw [if_pos (by rw [I.wanted r hl he hni R,hran])];exact .inl (I.go L r ch hl he hni h3 hran fun μ' H' a' w' I'=>ih _ a' w' (by simpa using hs) (by omega) (I'.congr hS))
  | false=>
   rw [if_neg (by rw [I.wanted r hl he hni R,hran];simp)];exact ih _ _ w (by simpa using hs) (by omega) ((I.pass L r ch hl he hni h3 hran).congr hS)
theorem Inv.start (s:St C μ H E0 h0 a w) (S:zfb C.ro μs Hs ws μ H w) (hno:∀k lc i,μ k=some lc→¬zo9 es k i):Inv C l rows es E0 h0 μs Hs ws (fun _=>False) μ H a w where
 env:=fun t ht c hc=>by
  rcases hc with⟨_,h1,_⟩|⟨_,h2⟩
  · exact h1.elim
  · rw [h2];exact s.env t
 size:=s.size
 mem:=s.sim.toMem
 obj:=fun k lc hk x hx=>by
  rcases hx with⟨_,h1,_⟩|⟨_,h2⟩
  · exact h1.elim
  · obtain⟨ob,g1,g2⟩:=s.sim.obj k lc hk;exact⟨ob,by rw [h2,g1],g2⟩
 dom:=fun k lc hk i hi=>hno k lc i hk hi
 foot:=fun j o e hj=>hj.elim
 glob:=s.glob
 defers:=s.defers
 closed:=fun j r hj=>hj.elim
 since:=S
theorem St.world (s:St C μ H E h a w) {w':World} (hw:Wd (fun _ _=>False) w w'):St C μ H E h a w' where
 env:=s.env
 size:=s.size
 sim:={toMem:=s.sim.toMem.same hw,obj:=fun k lc hk=>(s.sim.obj k lc hk).imp fun ob hh=>⟨hh.1,hh.2.keep' hw⟩}
 glob:=s.glob.step hw
 defers:=s.defers
theorem z6c (L:CLaws C) (O:OOK C) (X:XOK C) {draw:Bool} {ops:Array Oper} {id:Nat} {R:Type} {k:List (AV U)→za U→Option R} {r:R}
 (hc:cond (!draw||z7y C ops) (zej C draw draw ops (ops.size+1) none [] ops.toList E h k) none=some r) (s:St C μ H E h a w) (S:zfb C.ro μs Hs ws μ H w) {Q:Exit→Act→World→Prop}
 (hq:∀E' h',k E' h'=some r→E'.length=E.length→∀μ' H' a' w',St C μ' H' E' h' a' w'→zfb C.ro μs Hs ws μ' H' w'→Q .normal a' w'):(Code.region id ops draw).wp C.P Q a w:=by
 obtain⟨hd,hc⟩:=zcv hc
 cases draw with
 | false=>
  obtain⟨E',h',hk,rn⟩:=zhv L O X _ false none [] _ _ _ k r hc (fun g w e=>by cases e);refine wp_region_list ?_;have htop:∀(l:List Oper),∃rows,z8g C ops rows l:=by
   intro l
   induction l with
   | nil=>exact⟨[],.nil⟩
   | cons o l ih=>
    obtain⟨rows,ih⟩:=ih;exact⟨⟨0,zmw o,zlj ops o,zar C o,[],true⟩::rows,.cons ⟨rfl,rfl,rfl,rfl⟩ ih⟩
  obtain⟨rows,ht⟩:=htop ops.toList;exact(rn.run rows ht).sound L.e s S fun μ' H' a' w' s' S'=>hq E' h' hk rn.len μ' H' a' w' s' S'
 | true=>
  simp only [Bool.not_true,Bool.false_or,z7y,baa]at hd;obtain⟨E',h',rows,hk,ch,rn⟩:=ztt L O X _ [] _ _ _ k r hc;obtain⟨es,ev⟩:=rn.events;refine wp_region_any hd.1 ?_;have hw:Wd (fun _ _=>False) w {w with drawn:=w.drawn+1}:=Wd.draw _ w _;refine zadw L.e hd.2 ev ch (fun μ' H' a' w' s' S'=>hq E' h' hk ev.len μ' H' a' w' s' S') ops.size _ a _ (by simp) ?_ ?_ (μ:=μ) (H:=H)
  · have:=Array.countP_le_size (p:=fun b=> !b) (xs:=Array.replicate ops.size false);simpa using this
  · have I:=Inv.start (l:=ops.toList) (rows:=rows) (es:=es) (s.world hw) (S.still hw) fun k lc i hk ⟨e,h1,h2,h3⟩=>by
     obtain⟨ob,g1,_⟩:=s.sim.obj k lc hk;exact(ev.keeps (q:=k) (by rw [g1];simp)).2 i e h1 h2
    refine I.congr fun j=> ?_;simp only [false_iff]
    by_cases hj:j<ops.size<;>simp [Array.getD,hj]
end
section
variable {U:Uni} {C:Ctx U} {μ:Mp} {H:Fz} {E:List (AV U)} {h h':za U} {a:Act} {w:World} {o:Oper} {v:AV U}
theorem zkn (E:List (AV U)) (i:Nat) (v:AV U) (t:Nat):(E.set i v).getD t .dead=if i=t∧t<E.length then v else E.getD t .dead:=by
 have:=zic E (some i) v t
 simpa [zd0]using this
def zaih:zkr U→Nat→Prop
 | .ptr k _,k'=>k'=k
 | .fn _ ks,k'=>k'∈ks
 | _,_=>False
theorem zj8 {p:Nat × zkr U} {l:List (Nat × zkr U)} {k:Nat} (hk:k∈zii E l):k∈zii E (p::l):=by
 obtain⟨i,m⟩:=p
 cases m<;>simp only [zii]
 · exact mra _ hk
 all_goals exact hk
theorem zi9:∀(l:List (Nat × zkr U)) (r:List (Dyn U) × List Nat),zcx C E h l=some r→∀n rest q,zdw C n l (r.1++rest)=some q→q.1.length=n∧q.2.2=rest
 | [],r,hd,n,rest,q,he=>by
  cases hd;cases he;simp
 | (i,.val t)::l,r,hd,n,rest,q,he=>by
  simp only [zcx,oba]at hd;obtain⟨x,h1,r',h2,hd⟩:=hd;cases hd;simp only [zdw,List.cons_append,oba]at he;obtain⟨x',h3,q',h4,he⟩:=he;cases he;obtain⟨g1,g2⟩:=zi9 l r' h2 n rest q' h4;exact⟨by simp [g1],g2⟩
 | (i,.ptr k off)::l,r,hd,n,rest,q,he=>by
  simp only [zcx]at hd;split at hd
  · obtain⟨_,h2⟩:=zcv hd;simp only [zdw,oba]at he;obtain⟨q',h4,he⟩:=he;cases he;obtain⟨g1,g2⟩:=zi9 l r h2 n rest q' h4;exact⟨by simp [g1],g2⟩
  · cases hd
 | (i,.own k t)::l,r,hd,n,rest,q,he=>by
  simp only [zcx]at hd;have key:∀(d:Dyn U) (r':List (Dyn U) × List Nat),zcx C E h l=some r'→r.1=d::r'.1→q.1.length=n∧q.2.2=rest:=by
   intro d r' h2 h3;rw [h3]at he;simp only [zdw,List.cons_append,oba]at he;obtain⟨x',h3,q',h4,he⟩:=he;cases he;obtain⟨g1,g2⟩:=zi9 l r' h2 n rest q' h4;exact⟨by simp [g1],g2⟩
  split at hd
  · split at hd
    · split at hd
      · obtain⟨_,h2⟩:=zcv hd;rw [oba]at h2;obtain⟨r',h2,h3⟩:=h2;cases h3;exact key _ r' h2 rfl
      · cases hd
    · cases hd
  · rw [oba]at hd;obtain⟨r',h2,h3⟩:=hd;cases h3;exact key _ r' h2 rfl
  · cases hd
 | (i,.same j)::l,r,hd,n,rest,q,he=>by
  simp only [zcx]at hd;have key:zcx C E h l=some r→q.1.length=n∧q.2.2=rest:=by
   intro h2;simp only [zdw,oba]at he;obtain⟨q',h4,he⟩:=he;cases he;obtain⟨g1,g2⟩:=zi9 l r h2 n rest q' h4;exact⟨by simp [g1],g2⟩
  split at hd
  · exact key (zcv hd).2
  · exact key hd
  · cases hd
 | (i,.view j k t)::l,r,hd,n,rest,q,he=>by
  simp only [zcx]at hd;split at hd
  · split at hd
    · split at hd
      · obtain⟨_,h2⟩:=zcv hd;rw [oba]at h2;obtain⟨r',h2,h3⟩:=h2;cases h3;simp only [zdw,List.cons_append,oba]at he;obtain⟨x',h3,q',h4,he⟩:=he;split at he
        · obtain⟨_,he⟩:=zcv he;cases he;obtain⟨g1,g2⟩:=zi9 l r' h2 n rest q' h4;exact⟨by simp [g1],g2⟩
        · cases he
      · cases hd
    · cases hd
  · cases hd
 | (i,.ofbox s k j)::l,r,hd,n,rest,q,he=>by
  simp only [zcx]at hd;split at hd
  · split at hd
    · obtain⟨_,h2⟩:=zcv hd;simp only [zdw,oba]at he;obtain⟨q',h4,he⟩:=he;cases he;obtain⟨g1,g2⟩:=zi9 l r h2 n rest q' h4;exact⟨by simp [g1],g2⟩
    · cases hd
  · cases hd
 | (i,.fn f ks)::l,r,hd,n,rest,q,he=>by
  simp only [zcx]at hd;split at hd
  · obtain⟨_,h2⟩:=zcv hd;simp only [zdw,oba]at he;obtain⟨q',h4,he⟩:=he;cases he;obtain⟨g1,g2⟩:=zi9 l r h2 n rest q' h4;exact⟨by simp [g1],g2⟩
  · cases hd
theorem z9k {caps:List (AV U)} {ks:List Nat} (hl:caps.length=ks.length) (hz:((caps.zip ks).all fun(p:AV U × Nat)=>match p.1 with| .ptr k 0=>Nat.beq k p.2|_=>false)=true):caps=ks.map fun k=> .ptr k 0:=by
 induction caps generalizing ks with
 | nil=>cases ks with
  | nil=>rfl
  | cons=>simp at hl
 | cons c caps ih=>cases ks with
  | nil=>simp at hl
  | cons k ks=>
   simp only [List.zip_cons_cons,List.all_cons,baa]at hz;rw [List.map_cons,←ih (by simpa using hl) hz.2];have h1:=hz.1;cases c with
   | ptr k' off=>
    cases off with
    | zero=>
     have:=Nat.eq_of_beq_eq_true h1;rw [this]
    | succ=>cases h1
   | _=>cases h1
def zu7 (μ:Mp) (E E1:List (AV U)) (ml:List (Nat × Loc)) (l:List (Nat × zkr U)):Prop:=∀t k1 ver kk lk,E.getD t .dead= .own k1 ver .full→E1.getD t .dead= .own kk 0 .full→μ k1=some lk→(kk,zie lk .full)∈ml∨∃p∈l,p.2.isBox=true
theorem zu7.set {E E1:List (AV U)} {ml ml':List (Nat × Loc)} {l:List (Nat × zkr U)} (h:zu7 μ E E1 ml l) (hs:∀x∈ml,x∈ml') {i:Nat} {x:AV U} {m:zkr U} (hx:∀k1 ver kk lk,E.getD i .dead= .own k1 ver .full→x= .own kk 0 .full→μ k1=some lk→(kk,zie lk .full)∈ml'∨∃p∈(i,m)::l,p.2.isBox=true):zu7 μ E (E1.set i x) ml' ((i,m)::l):=by
 intro t k1 ver kk lk e1 e2 e3
 rw [zkn]at e2
 split at e2
 · rename_i e;obtain⟨rfl,_⟩:=e;exact hx _ _ _ _ e1 e2 e3
 · rcases h t k1 ver kk lk e1 e2 e3 with hm|⟨p,hp,hb⟩
   · exact .inl (hs _ hm)
   · exact .inr ⟨p,mca _ hp,hb⟩
theorem z4q (L:ELaws C.En) (t:U.Ty) (x:U.den t) (k ver:Nat) (ww:zai):C.En.value t x≠ .own k ver ww:=by
 unfold Enc.value
 cases C.En.agg t with
 | true=>simp
 | false=>
  simp only [cond_false];cases hq:C.En.enc t x with
  | nil=>simp
  | cons c l=>
   rcases L.fz t x c (by rw [hq];exact msa)with⟨v,rfl,_⟩|⟨t',xs,rfl⟩<;>simp
theorem z4u {l:Loc} {off:Nat} {u:Value} (hh:zol l (.suf off) u):zol (zie l .full) (.suf off) u:=by
 obtain⟨h1,h2⟩:=hh
 refine⟨h1,?_⟩
 cases ha:l.at_ with
 | none=>
  simp only [ha]at h2;simp only [zie,ha,Option.map_none];exact h2
 | some p=>
  obtain⟨b,o'⟩:=p;simp only [ha]at h2;simp only [zie,ha,Option.map_some,zai.off,zai.len,Nat.zero_mul,Nat.add_zero,Nat.sub_zero]at h2⊢;exact h2
def z93 (μ μ1:Mp) (E:List (AV U)) (h:za U) (p:Nat × zkr U):Prop:=
 (∀k lc,zaih p.2 k→μ k=some lc→lc.box=true→μ1 k=some lc)∧
 ∀s k j k1 ver off cs lk,p.2= .ofbox s k j→E.getD s .dead= .ptr k off→zc h k=some (.box cs)→cs[j]?=some (.own k1 ver .full)→μ k1=some lk→μ1 (4000000+1000*k+j)=some (zie lk .full)
theorem zis (L:ELaws C.En) (s:St C μ H E h a w) (bs:List Nat):∀(l:List (Nat × zkr U)) (r:List (Dyn U) × List Nat),zcx C E h l=some r→∀n rest (q:List (AV U) × za U × List (Dyn U)),zdw C n l (r.1++rest)=some q→(∀k∈zii E l,k∈bs)→
 ∃ml ss,zm4 μ ml ss∧ss.filterMap id=r.2∧(∀k∈r.2,∃ver t xs,zc h k=some (.arr ver t xs))∧(∀q∈ml,q.2.box=false)∧ml.map (·.1)=q.2.1.map (·.1)∧zu7 μ E q.1 ml l∧
  ∀μ1,zgt μ1 ml→(∀p∈l,z93 μ μ1 E h p)→zjq C.En μ1 (zcp μ H w bs) w ml q.2.1∧∀t u,V C.En μ H (E.getD t .dead) u→V C.En μ1 (zcp μ H w bs) (q.1.getD t .dead) u
 | [],r,hd,n,rest,q,he,hb=>by
  cases hd;cases he;refine⟨[],[],.nil,rfl,(fun k hk=>by simp at hk),(fun q hq=>by simp at hq),rfl,fun t k1 ver kk lk _ e2 _=> ?_,fun μ1 _ _=>⟨.nil,fun t u _=> ?_⟩⟩
  · simp only at e2;rw [gda,List.getElem?_replicate]at e2;split at e2<;>cases e2
  have:((List.replicate n (.dead:AV U)).getD t .dead)= .dead:=by
   rw [gda,List.getElem?_replicate];split<;>rfl
  show V C.En μ1 _ ((List.replicate n (.dead:AV U)).getD t .dead) u;rw [this];exact .dead _
 | (i,.val t)::l,r,hd,n,rest,q,he,hb=>by
  simp only [zcx,oba]at hd;obtain⟨x,h1,r',h2,hd⟩:=hd;cases hd;simp only [zdw,List.cons_append,oba]at he;obtain⟨x',h3,q',h4,he⟩:=he;cases he;have hx:=zn0 h3;subst hx;obtain⟨ml,ss,g1,g2,g3,g4,g6,g7,g5⟩:=zis L s bs l r' h2 n rest q' h4 (fun k hk=>hb k (zj8 hk));refine⟨ml,ss,g1,g2,g3,g4,g6,g7.set (fun _ hx=>hx) (fun _ _ _ _ _ e2 _=>absurd e2 (z4q L _ _ _ _ _)),fun μ1 hw hk=> ?_⟩;obtain⟨p1,p2⟩:=g5 μ1 hw (fun p hp=>hk p (mca _ hp));refine⟨p1,fun t' u hV=> ?_⟩;simp only;rw [zkn];split
  · rename_i e;obtain⟨e,_⟩:=e;subst e;exact zva L s.sim.toMem h1 hV (fun k hk=>⟨hb k (by rw [zii];exact mla _ hk),fun lc hlc=>s.sim.obj k lc hlc⟩) μ1
  · exact p2 t' u hV
 | (i,.ptr k off)::l,r,hd,n,rest,q,he,hb=>by
  simp only [zcx]at hd;split at hd
  · rename_i k' off' hE;obtain⟨hk0,h2⟩:=zcv hd;simp only [baa,zca,decide_eq_true_eq]at hk0;obtain⟨rfl,rfl⟩:=hk0;simp only [zdw,oba]at he;obtain⟨q',h4,he⟩:=he;cases he;obtain⟨ml,ss,g1,g2,g3,g4,g6,g7,g5⟩:=zis L s bs l r h2 n rest q' h4 (fun k hk=>hb k (zj8 hk));refine⟨ml,ss,g1,g2,g3,g4,g6,g7.set (fun _ hx=>hx) (fun _ _ _ _ _ e2 _=>by cases e2),fun μ1 hw hk=> ?_⟩;obtain⟨p1,p2⟩:=g5 μ1 hw (fun p hp=>hk p (mca _ hp));refine⟨p1,fun t' u hV=> ?_⟩;simp only;rw [zkn];split
    · rename_i e;obtain⟨e,_⟩:=e;subst e;rw [hE]at hV;cases hV with
      | ptr hl hbx ha=>exact .ptr ((hk _ msa).1 k _ rfl hl hbx) hbx ha
    · exact p2 t' u hV
  · cases hd
 | (i,.own k t)::l,r,hd,n,rest,q,he,hb=>by
  simp only [zcx]at hd;have hb':∀k∈zii E l,k∈bs:=fun k hk=>hb k (zj8 hk);split at hd
  · rename_i k' ver ww hE;split at hd
    · rename_i ver' t' xs hg;split at hd
      · rename_i eq heq;obtain⟨hv0,h2⟩:=zcv hd;simp only [zca,decide_eq_true_eq]at hv0;subst hv0;obtain⟨eq⟩:=eq;subst eq;rw [oba]at h2;obtain⟨r',h2,h3⟩:=h2;cases h3;simp only [zdw,List.cons_append,oba]at he;obtain⟨x',h3,q',h4,he⟩:=he;cases he;have hx:=zn0 h3;subst hx;rw [L.ofTo,zrb];obtain⟨ml,ss,g1,g2,g3,g4,g6,g7,g5⟩:=zis L s bs l r' h2 n rest q' h4 hb';have hV0:=s.env i;rw [hE]at hV0;cases hV0 with
        | own hl hbx hv hpp hh=>
         rename_i lk;obtain⟨ob,r1,r2⟩:=s.sim.obj k' lk hl;rw [hg]at r1;cases r1;have hown:=hh r2.2.1.symm;refine⟨(k,zie lk ww)::ml,some k'::ss,.cons (fun b o hh=>⟨k',lk,rfl,hl,hbx,zt2 hh⟩) g1,by simp [g2],fun k2 hk2=> ?_,fun p hp=> ?_,by simp [g6],g7.set (fun _ hx=>mca _ hx) (fun k1 ver' kk lk' e1 e2 e3=> ?_),fun μ1 hw hk=> ?_⟩
         · rcases mco hk2 with rfl|hk2
           · exact⟨_,_,_,hg⟩
           · exact g3 k2 hk2
         · rcases mco hp with rfl|hp
           · rfl
           · exact g4 p hp
         · rw [hE]at e1;cases e1;cases e2;rw [hl]at e3;cases e3;exact .inl msa
         · obtain⟨p1,p2⟩:=g5 μ1 (fun p hp=>hw p (mca _ hp)) (fun p hp=>hk p (mca _ hp));refine⟨.cons ⟨rfl,zt0 L (zgl s.sim.toMem bs) r2 hown⟩ p1,fun t' u hV=> ?_⟩;simp only;rw [zkn];split
           · rename_i e;obtain⟨e,_⟩:=e;subst e;rw [hE]at hV;cases hV with
             | own hl2 hb2 hv2 hp2 hh2=>
              rw [hl]at hl2;cases hl2;exact .own (hw _ msa) rfl (Nat.le_refl _) hp2 fun _=>zs2 (hh2 r2.2.1.symm)
           · exact p2 t' u hV
      · cases hd
    · cases hd
  · rename_i hE;rw [oba]at hd;obtain⟨r',h2,h3⟩:=hd;cases h3;simp only [zdw,List.cons_append,oba]at he;obtain⟨x',h3,q',h4,he⟩:=he;cases he;have hx:=zn0 h3;subst hx;rw [L.ofTo];obtain⟨ml,ss,g1,g2,g3,g4,g6,g7,g5⟩:=zis L s bs l r' h2 n rest q' h4 hb';refine⟨(k,⟨false,none,0,0,C.En.sz t,0⟩)::ml,none::ss,.cons (fun b o ⟨o0,h1,_⟩=>by cases h1) g1,by simp [g2],g3,fun p hp=> ?_,by simp [g6],g7.set (fun _ hx=>mca _ hx) (fun k1 ver' kk lk' e1 e2 e3=>by rw [hE]at e1;cases e1),fun μ1 hw hk=> ?_⟩
    · rcases mco hp with rfl|hp
      · rfl
      · exact g4 p hp
    · obtain⟨p1,p2⟩:=g5 μ1 (fun p hp=>hw p (mca _ hp)) (fun p hp=>hk p (mca _ hp));refine⟨.cons ⟨rfl,rfl,rfl,rfl,rfl,rfl,rfl⟩ p1,fun t' u hV=> ?_⟩;simp only;rw [zkn];split
      · rename_i e;obtain⟨e,_⟩:=e;subst e;rw [hE]at hV;have hu:=hV.int;exact .own (hw _ msa) rfl (Nat.le_refl _) ⟨_,_,_,hu⟩ fun _=>⟨Nat.le_refl _,hu,rfl⟩
      · exact p2 t' u hV
  · cases hd
 | (i,.same j)::l,r,hd,n,rest,q,he,hb=>by
  simp only [zcx]at hd;have key:zcx C E h l=some r→E.getD i .dead=E.getD j .dead→∃ml ss,zm4 μ ml ss∧ss.filterMap id=r.2∧(∀k∈r.2,∃ver t xs,zc h k=some (.arr ver t xs))∧(∀q∈ml,q.2.box=false)∧ml.map (·.1)=q.2.1.map (·.1)∧zu7 μ E q.1 ml ((i,zkr.same j)::l)∧
   ∀μ1,zgt μ1 ml→(∀p∈(i,zkr.same j)::l,z93 μ μ1 E h p)→zjq C.En μ1 (zcp μ H w bs) w ml q.2.1∧∀t u,V C.En μ H (E.getD t .dead) u→V C.En μ1 (zcp μ H w bs) (q.1.getD t .dead) u:=by
   intro h2 hij;simp only [zdw,oba]at he;obtain⟨q',h4,he⟩:=he;cases he;obtain⟨ml,ss,g1,g2,g3,g4,g6,g7,g5⟩:=zis L s bs l r h2 n rest q' h4 (fun k hk=>hb k (zj8 hk));refine⟨ml,ss,g1,g2,g3,g4,g6,g7.set (fun _ hx=>hx) (fun k1 ver kk lk e1 e2 e3=>(g7 j k1 ver kk lk (hij▸e1) e2 e3).imp id fun⟨p,hp,hb⟩=>⟨p,mca _ hp,hb⟩),fun μ1 hw hk=> ?_⟩;obtain⟨p1,p2⟩:=g5 μ1 hw (fun p hp=>hk p (mca _ hp));refine⟨p1,fun t' u hV=> ?_⟩;simp only;rw [zkn];split
   · rename_i e;obtain⟨e,_⟩:=e;subst e;rw [hij]at hV;exact p2 j u hV
   · exact p2 t' u hV
  split at hd
  · rename_i h1 h2;obtain⟨h3,h4⟩:=zcv hd;simp only [baa,zca,decide_eq_true_eq]at h3;obtain⟨rfl,rfl⟩:=h3;exact key h4 (h1.trans h2.symm)
  · rename_i h1 h2;exact key hd (h1.trans h2.symm)
  · cases hd
 | (i,.view j k t)::l,r,hd,n,rest,q,he,hb=>by
  simp only [zcx]at hd;split at hd
  · rename_i k1 ver off k2 ver2 hE hEj;split at hd
    · rename_i ver' t' xs hg;split at hd
      · rename_i eq heq;obtain⟨hv0,h2⟩:=zcv hd;obtain⟨hv0,hnb⟩:=(baa _ _).mp hv0;simp only [baa,zca,decide_eq_true_eq]at hv0;obtain⟨⟨rfl,rfl⟩,rfl⟩:=hv0;obtain⟨eq⟩:=eq;subst eq;rw [oba]at h2;obtain⟨r',h2,h3⟩:=h2;cases h3;simp only [zdw,List.cons_append,oba]at he;obtain⟨x',h3,q',h4,he⟩:=he;have hx:=zn0 h3;subst hx;rw [L.ofTo,zrb]at he;split at he
        · rename_i k' hqj;cases hkb:Nat.beq k k' with
          | false=>simp [hkb]at he
          | true=>
          have hkk:=Nat.eq_of_beq_eq_true hkb;subst hkk;simp only [hkb,cond_true,Option.some.injEq]at he;subst he;obtain⟨ml,ss,g1,g2,g3,g4,g6,g7,g5⟩:=zis L s bs l r' h2 n rest q' h4 (fun k hk=>hb k (zj8 hk));have hV0:=s.env i;rw [hE]at hV0;cases hV0 with
          | own hl hbx hv hpp hh=>
           rename_i lk;obtain⟨ob,r1,r2⟩:=s.sim.obj k1 lk hl;rw [hg]at r1;cases r1;have hm:(k,zie lk .full)∈ml:=(g7 j k1 ver k lk hEj hqj hl).resolve_right fun⟨p,hp,hpb⟩=>by
            have:=lat hnb p hp;rw [hpb]at this;cases this
           have hoff:(xs.take off).length=off:=by
            have:=(hh r2.2.1.symm).1;rw [r2.2.2.1]at this;simp only [zai.off,zai.len]at this;rw [List.length_take];omega
           refine⟨ml,ss,g1,g2,g3,g4,g6,g7.set (fun _ hx=>hx) (fun _ _ _ _ _ e2 _=>by cases e2),fun μ1 hw hk=> ?_⟩;obtain⟨p1,p2⟩:=g5 μ1 hw (fun p hp=>hk p (mca _ hp));refine⟨p1,fun t' u hV=> ?_⟩;simp only;rw [zkn];split
           · rename_i e;obtain⟨e,_⟩:=e;subst e;rw [hE]at hV;cases hV with
             | own hl2 hb2 hv2 hp2 hh2=>
              rw [hl]at hl2;cases hl2;rw [hoff];exact .own (hw _ hm) rfl (Nat.le_refl _) hp2 fun _=>z4u (hh2 r2.2.1.symm)
           · exact p2 t' u hV
        · cases he
      · cases hd
    · cases hd
  · cases hd
 | (i,.ofbox sl k j)::l,r,hd,n,rest,q,he,hb=>by
  simp only [zcx]at hd;split at hd
  · rename_i k1 ver k2 off cs hE hEs hg;split at hd
    · rename_i k3 ver2 ver' t' xs hcj hg1;obtain⟨hv0,h2⟩:=zcv hd;simp only [baa,zca,decide_eq_true_eq]at hv0;obtain⟨⟨rfl,rfl⟩,rfl,rfl⟩:=hv0;simp only [zdw,oba]at he;obtain⟨q',h4,he⟩:=he;cases he;obtain⟨ml,ss,g1,g2,g3,g4,g6,g7,g5⟩:=zis L s bs l r h2 n rest q' h4 (fun k hk=>hb k (zj8 hk));refine⟨ml,ss,g1,g2,g3,g4,g6,g7.set (fun _ hx=>hx) (fun _ _ _ _ e1 e2 e3=> ?_),fun μ1 hw hk=> ?_⟩
      · exact .inr ⟨_,msa,rfl⟩
      obtain⟨p1,p2⟩:=g5 μ1 hw (fun p hp=>hk p (mca _ hp));refine⟨p1,fun t' u hV=> ?_⟩;simp only;rw [zkn];split
      · rename_i e;obtain⟨e,_⟩:=e;subst e;rw [hE]at hV;cases hV with
        | own hl hbx hv hpp hh=>
         rename_i lk;obtain⟨ob,r1,r2⟩:=s.sim.obj k1 lk hl;rw [hg1]at r1;cases r1;exact .own ((hk _ msa).2 _ _ _ _ _ _ _ _ rfl hEs hg hcj hl) rfl (Nat.le_refl _) hpp fun _=>zs2 (hh r2.2.1.symm)
      · exact p2 t' u hV
    · cases hd
  · cases hd
 | (i,.fn f ks)::l,r,hd,n,rest,q,he,hb=>by
  simp only [zcx]at hd;split at hd
  · rename_i g caps hE;obtain⟨hk0,h2⟩:=zcv hd;obtain⟨hk1,hz⟩:=(baa _ _).mp hk0;simp only [baa,zca,decide_eq_true_eq]at hk1;obtain⟨rfl,hlen⟩:=hk1;have hcaps:=z9k hlen hz;simp only [zdw,oba]at he;obtain⟨q',h4,he⟩:=he;cases he;obtain⟨ml,ss,g1,g2,g3,g4,g6,g7,g5⟩:=zis L s bs l r h2 n rest q' h4 (fun k hk=>hb k (zj8 hk));refine⟨ml,ss,g1,g2,g3,g4,g6,g7.set (fun _ hx=>hx) (fun _ _ _ _ _ e2 _=>by cases e2),fun μ1 hw hk=> ?_⟩;obtain⟨p1,p2⟩:=g5 μ1 hw (fun p hp=>hk p (mca _ hp));refine⟨p1,fun t' u hV=> ?_⟩;simp only;rw [zkn];split
    · rename_i e;obtain⟨e,_⟩:=e;subst e;rw [hE,hcaps]at hV;cases hV with
      | fn hn hv=>
       refine .fn hn fun j c hj=> ?_;have hc:=hv j c hj;rw [gem,oma]at hj;obtain⟨k,hkj,rfl⟩:=hj;generalize hu:Array.getD _ _ _=u' at hc⊢;cases hc with
       | ptr hl hbx ha=>exact .ptr ((hk _ msa).1 k _ (lma hkj) hl hbx) hbx ha
    · exact p2 t' u hV
  · cases hd
end
section
variable {U:Uni} {C:Ctx U} {μ:Mp} {H:Fz} {E:List (AV U)} {h h':za U} {a:Act} {w:World} {o:Oper} {v:AV U}
def zid (C:Ctx U) (base:Nat→Nat):List (Nat × U.Ty × List Nat)→List (Dyn U)→Option (za U)
 | [],[]=>some []
 | (k,t,owns)::l,d::ds=>(d.as t).bind fun x=>match zih (base k) owns 0 (C.En.enc t x)with
  | some r=>(zid C base l ds).bind fun h=>some ((k,.box r.1)::(r.2++h))
  | none=>none
 | _,_=>none
theorem zzu:∀(l:List (Nat × U.Ty × List Nat)) (ds:List (Dyn U)),zwi C l ds=zid C (fun k=>4000000+1000*k) l ds
 | [],[]=>rfl
 | [],_::_=>rfl
 | _::_,[]=>rfl
 | (k,t,owns)::l,d::ds=>by
  simp only [zwi,zid,zzu l ds]
  congr 1
theorem zuc (L:ELaws C.En) (s:St C μ H E h a w) (bs:List Nat) (base:Nat→Nat):∀(l:List (Nat × U.Ty × List Nat)) (r:List (Dyn U) × List Nat),zov C h l=some r→∀hs,zid C base l r.1=some hs→
 (∀k∈zlz h l,(∃lc,μ k=some lc∧lc.box=false)→k∈bs)→
 ∃ml ss hs' kb ka,zm4 μ ml ss∧List.Perm (ss.filterMap id) (kb++ka)∧kb.Sublist (l.map (·.1))∧ka.Sublist r.2∧(∀k∈kb,∃cs,zc h k=some (.box cs))∧(∀k∈r.2,∃ver t xs,zc h k=some (.arr ver t xs))∧
  hs'.Sublist hs∧(l.map (·.1)).Sublist (hs.map (·.1))∧(∀p∈l,∀lc,μ p.1=some lc→(p.1,lc)∈ml)∧(∀q∈ml,q.2.box=true→μ q.1=some q.2)∧
  (∀p∈l,μ p.1≠none→∀cs (j:Nat) k ver ww lk,zc h p.1=some (.box cs)→cs[j]?=some (.own k ver ww)→p.2.2.contains j=true→μ k=some lk→(base p.1+j,zie lk ww)∈ml)∧
  ml.map (·.1)=hs'.map (·.1)∧((∀p∈l,μ p.1≠none)→hs'=hs)∧∀μ1,zgt μ1 ml→zjq C.En μ1 (zcp μ H w bs) w ml hs'
 | [],r,hd,hs,he,hb=>by
  cases hd;cases he;exact⟨[],[],[],[],[],.nil,.nil,.slnil,.slnil,(fun k hk=>by simp at hk),(fun k hk=>by simp at hk),.slnil,.slnil,(fun p hp=>by simp at hp),(fun p hp=>by simp at hp),(fun p hp=>by simp at hp),rfl,(fun _=>rfl),fun μ1 _=> .nil⟩
 | (k,t,owns)::l,r,hd,hs,he,hb=>by
  simp only [zov]at hd;split at hd
  · rename_i cs hg;rw [oba]at hd;obtain⟨x,h1,hd⟩:=hd;split at hd
    · rename_i ks hk;rw [oba]at hd;obtain⟨r',h2,hd⟩:=hd;cases hd;simp only [zid,oba]at he;obtain⟨x',h3,he⟩:=he;have hx:=zn0 h3;subst hx;split at he
      · rename_i oz hoz;rw [oba]at he;obtain⟨hs0,h4,he⟩:=he;cases he;obtain⟨oz1,oz2⟩:=oz;have hbk:∀k'∈zgf owns 0 cs,(∃lc,μ k'=some lc∧lc.box=false)→k'∈bs:=fun k' hk'=>hb k' (by simp only [zlz,hg];exact mla _ hk');obtain⟨ml,ss,hs',kb,ka,g1,g2,g3,g4,g5,g6,g7,g7',g8,g9,g12,g9',g11,g10⟩:=zuc L s bs base l r' h2 hs0 h4 (fun k' hk'=>hb k' (by simp only [zlz,hg];exact mra _ hk'));have hks:∀k'∈ks++r'.2,∃ver t xs,zc h k'=some (.arr ver t xs):=fun k' hk'=>by
         rcases mpa hk' with hk'|hk'
         · exact(zlf cs 0 ks hk).1 k' hk'
         · exact g6 k' hk'
        have hsub:(l.map (·.1)).Sublist ((oz2++hs0).map (·.1)):=by
         rw [List.map_append];exact g7'.trans (List.sublist_append_right _ _)
        cases hq:μ k with
        | none=>
         refine⟨ml,ss,hs',kb,ka,g1,g2,g3.trans (List.sublist_cons_self _ _),g4.trans (List.sublist_append_right _ _),g5,hks,(g7.trans (List.sublist_append_right _ _)).trans (List.sublist_cons_self _ _),.cons_cons _ hsub,fun p hp lc hlc=> ?_,g9,fun p hp hn=> ?_,g9',(fun hh=>absurd hq (hh _ msa)),g10⟩
         · rcases mco hp with rfl|hp
           · rw [hq]at hlc;cases hlc
           · exact g8 p hp lc hlc
         · rcases mco hp with rfl|hp
           · exact absurd hq hn
           · exact g12 p hp hn
        | some lc=>
         obtain⟨ob,r1,r2⟩:=s.sim.obj k lc hq;rw [hg]at r1;cases r1;have r2':=r2;obtain⟨q1,q2,b,o',q3,q4,q5⟩:=r2';have hle:0+cs.length≤cs.length:=by omega
         have hcl:=ztj (k:=k) L r2 q3 hle;simp only [List.drop_zero,List.take_length,Nat.add_zero]at hcl;obtain⟨hel,href⟩:=L.reify _ _ _ h1;rw [List.length_map]at hel;have hm:=s.sim.toMem;have hmem:∀k' ver ww (j:Nat),cs[j]?=some (.own k' ver ww)→(owns.contains (0+j)=false→k'∈bs)∧zmj C μ H h w k':=by
          intro k' ver ww j hj;refine⟨fun hcj=>hbk k' (zpv _ _ _ hj hcj) ?_,fun lc' hlc'=>s.sim.obj k' lc' hlc'⟩;have hv:=(hcl j _ hj).1;generalize (w.cell? ⟨b,o'+j,none⟩).getD undef=u at hv;cases hv with
          | own hl hb0 _ _ _=>exact⟨_,hl,hb0⟩
         obtain⟨ml1,ss1,f1,f2,f3,f5,f6,f7,f4⟩:=zqx L (zgl hm bs) (base k) owns cs 0 (C.En.enc t x') oz1 oz2 ks (fun j=>(w.cell? ⟨b,o'+j,none⟩).getD undef)
          (fun j c hj=>(hcl j c hj).1) (fun k' ver ww hm'=>by obtain⟨j,hj⟩:=List.getElem?_of_mem hm';exact(hmem k' ver ww j hj).2) (by rw [hel,L.sz])
          (fun j c c2 hj hj2=>⟨href j _ c2 (by rw [gem,hj];rfl) hj2,L.fz _ _ _ (lma hj2)⟩)
          (fun j c hj hcj=>by
           have hjl:=(gea hj).1;have hj2:j<(C.En.enc t x').length:=by rw [L.sz];omega
           exact zs7 L hm (hcl j c hj).1 (fun k' ver ww e=>by subst e;exact⟨(hmem k' ver ww j hj).1 hcj,(hmem k' ver ww j hj).2⟩) (href j _ _ (by rw [gem,hj];rfl) (lga hj2)) (L.fz _ _ _ (List.getElem_mem hj2)) zi6) hk hoz
         refine⟨(k,lc)::(ml1++ml),some k::(ss1++ss),(k,.box oz1)::(oz2++hs'),k::kb,ks++ka,.cons (fun b2 o2 hh=>⟨k,lc,rfl,hq,rfl,hh⟩) (f1.append g1),?_,.cons_cons _ g3,.append (List.Sublist.refl _) g4,fun k' hk'=> ?_,hks,.cons_cons _ (.append (List.Sublist.refl _) g7),.cons_cons _ hsub,fun p hp lc' hlc'=> ?_,fun p hp hpb=> ?_,fun p hp hn cs' j k' ver ww lk e1 e2 e3 e4=> ?_,by simp [f6,g9'],(fun hh=>by rw [g11 fun p hp=>hh p (mca _ hp)]),fun μ1 hw=> ?_⟩
         · simp only [List.filterMap_cons,id_eq,List.filterMap_append,f2,List.cons_append];refine List.Perm.cons _ ?_;refine(List.Perm.append_left ks g2).trans ?_;rw [←List.append_assoc,←List.append_assoc];exact List.Perm.append_right _ List.perm_append_comm
         · rcases mco hk' with rfl|hk'
           · exact⟨cs,hg⟩
           · exact g5 k' hk'
         · rcases mco hp with rfl|hp
           · rw [hq]at hlc';cases hlc';exact msa
           · exact mca _ (mra _ (g8 p hp lc' hlc'))
         · rcases mco hp with rfl|hp
           · exact hq
           · rcases mpa hp with hp|hp
             · rw [f5 p hp]at hpb;cases hpb
             · exact g9 p hp hpb
         · rcases mco hp with rfl|hp
           · rw [hg]at e1;cases e1;have:=f7 j k' ver ww lk e2 (by rw [Nat.zero_add];exact e3) e4;rw [Nat.zero_add]at this;exact mca _ (mla _ this)
           · exact mca _ (mra _ (g12 p hp hn cs' j k' ver ww lk e1 e2 e3 e4))
         · obtain⟨p1,p2⟩:=f4 μ1 (fun p hp=>hw p (mca _ (mla _ hp)));have p3:=g10 μ1 (fun p hp=>hw p (mca _ (mra _ hp)));refine .cons ⟨rfl,q1,q2,b,o',q3,by rw [f3];exact q4,fun j c' hj=> ?_⟩ (p1.append p3);have hjl:=(gea hj).1;rw [f3]at hjl;obtain⟨_,t2,t3⟩:=hcl j _ (lga hjl);obtain⟨cv,t4⟩:=Option.isSome_iff_exists.1 t2;have:=p2 j c' hj;rw [t4]at this;exact⟨cv,t4,t3,this⟩
      · cases he
    · cases hd
  · cases hd
theorem V.capPtr {En:Enc U} {μ1:Mp} {H1:Fz} {k off:Nat} {u:Value} (hV:V En μ H (.ptr k off) u) (hk:∀lc,μ k=some lc→μ1 k=some lc):V En μ1 H1 (.ptr k off) u:=by
 cases hV with
 | ptr hl hb hat=>exact .ptr (hk _ hl) hb hat
theorem V.caps {En:Enc U} {μ1:Mp} {H1:Fz} {f:FuncId} {ks:List Nat} {u:Value} (hV:V En μ H (.fn f (ks.map fun k=> .ptr k 0)) u) (hk:∀k∈ks,∀lc,μ k=some lc→μ1 k=some lc):V En μ1 H1 (.fn f (ks.map fun k=> .ptr k 0)) u:=by
 cases hV with
 | fn hn hv=>
  refine .fn hn fun j c hj=> ?_;have hc:=hv j c hj;rw [gem]at hj;cases hk':ks[j]? with
  | none=>rw [hk']at hj;cases hj
  | some k=>
   rw [hk']at hj;cases hj;exact hc.capPtr (hk k (lma hk'))
theorem zyg (s:St C μ H E h a w) (bs:List Nat):∀(l:List (Nat × FuncId × List Nat)),fbOk h l=true→
 ∃ml ss hs',zm4 μ ml ss∧ss.filterMap id=ml.map (·.1)∧(ml.map (·.1)).Sublist (l.map (·.1))∧(∀k∈ml.map (·.1),∃cs,zc h k=some (.box cs))∧hs'.Sublist (z0x (U:=U) l)∧
  (∀p∈l,∀lc,μ p.1=some lc→(p.1,lc)∈ml)∧ml.map (·.1)=hs'.map (·.1)∧
  ∀(μ1:Mp) (H1:Fz),zgt μ1 ml→(∀p∈l,∀k∈p.2.2,∀lc,μ k=some lc→μ1 k=some lc)→zjq C.En μ1 H1 w ml hs'
 | [],_=>⟨[],[],[],.nil,rfl,.slnil,(fun k hk=>by simp at hk),.slnil,(fun p hp=>by simp at hp),rfl,fun μ1 H1 _ _=> .nil⟩
 | (k,f,ks)::l,hf=>by
  unfold fbOk at hf;rw [List.all_cons,baa]at hf;obtain⟨h1,h2⟩:=hf;obtain⟨ml,ss,hs',g1,g2,g3,g4,g5,g6,g7,g8⟩:=zyg s bs l h2;simp only at h1;split at h1
  · rename_i g caps hg;obtain⟨hfg,hcap⟩:=(baa _ _).mp h1;have hfg:=Nat.eq_of_beq_eq_true hfg;subst hfg;unfold z9x at hcap;obtain⟨hl,hz⟩:=(baa _ _).mp hcap;have hcaps:=z9k (Nat.eq_of_beq_eq_true hl) hz;subst hcaps;cases hq:μ k with
    | none=>
     refine⟨ml,ss,hs',g1,g2,g3.trans (List.sublist_cons_self _ _),g4,g5.trans (List.sublist_cons_self _ _),fun p hp lc hlc=> ?_,g7,fun μ1 H1 hw hk=>g8 μ1 H1 hw fun p hp=>hk p (mca _ hp)⟩;rcases mco hp with rfl|hp
     · rw [hq]at hlc;cases hlc
     · exact g6 p hp lc hlc
    | some lc=>
     obtain⟨ob,r1,r2⟩:=s.sim.obj k lc hq;rw [hg]at r1;cases r1;obtain⟨q1,q2,b,o',q3,q4,q5⟩:=r2;refine⟨(k,lc)::ml,some k::ss,(k,.box [.fn f (ks.map fun k=> .ptr k 0)])::hs',.cons (fun b2 o2 hh=>⟨k,lc,rfl,hq,rfl,hh⟩) g1,by simp [g2],.cons_cons _ g3,fun k' hk'=> ?_,.cons_cons _ g5,fun p hp lc' hlc'=> ?_,by simp [g7],fun μ1 H1 hw hk=> .cons ⟨rfl,q1,q2,b,o',q3,q4,fun j c hj=> ?_⟩ (g8 μ1 H1 (fun q hq=>hw q (mca _ hq)) fun p hp=>hk p (mca _ hp))⟩
     · rw [List.map_cons]at hk';rcases mco hk' with rfl|hk'
       · exact⟨_,hg⟩
       · exact g4 k' hk'
     · rcases mco hp with rfl|hp
       · rw [hq]at hlc';cases hlc';exact msa
       · exact mca _ (g6 p hp lc' hlc')
     · cases j with
       | zero=>
        cases hj;obtain⟨cv,e1,e2,e3⟩:=q5 0 _ rfl;exact⟨cv,e1,e2,e3.caps (hk _ msa)⟩
       | succ j=>simp at hj
  · cases h1
theorem z78 (L:ELaws C.En) (s:St C μ H E h a w) (bs:List Nat) (base:Nat→Nat) {l:List (Nat × U.Ty × List Nat)} {r:List (Dyn U) × List Nat} (hd:zov C h l=some r) {hs:za U} (he:zid C base l r.1=some hs)
 (hb:∀k∈zlz h l,(∃lc,μ k=some lc∧lc.box=false)→k∈bs) {lf:List (Nat × FuncId × List Nat)} (hf:fbOk h lf=true):
 ∃ml ss hs' kb ka,zm4 μ ml ss∧List.Perm (ss.filterMap id) (kb++ka)∧kb.Sublist (l.map (·.1)++lf.map (·.1))∧ka.Sublist r.2∧(∀k∈kb,∃cs,zc h k=some (.box cs))∧(∀k∈r.2,∃ver t xs,zc h k=some (.arr ver t xs))∧
  hs'.Sublist (hs++z0x (U:=U) lf)∧(l.map (·.1)++lf.map (·.1)).Sublist ((hs++z0x (U:=U) lf).map (·.1))∧(∀p∈l,∀lc,μ p.1=some lc→(p.1,lc)∈ml)∧(∀p∈lf,∀lc,μ p.1=some lc→(p.1,lc)∈ml)∧
  (∀p∈l,μ p.1≠none→∀cs (j:Nat) k ver ww lk,zc h p.1=some (.box cs)→cs[j]?=some (.own k ver ww)→p.2.2.contains j=true→μ k=some lk→(base p.1+j,zie lk ww)∈ml)∧
  ml.map (·.1)=hs'.map (·.1)∧∀μ1,zgt μ1 ml→(∀p∈lf,∀k∈p.2.2,∀lc,μ k=some lc→μ1 k=some lc)→zjq C.En μ1 (zcp μ H w bs) w ml hs':=by
 obtain⟨ml,ss,hs',kb,ka,g1,g2,g3,g4,g5,g6,g7,g7',g8,g9,g12,g9',g11,g10⟩:=zuc L s bs base l r hd hs he hb
 obtain⟨mf,sf,hf',f1,f2,f3,f4,f5,f6,f7,f8⟩:=zyg s bs lf hf
 refine⟨ml++mf,ss++sf,hs'++hf',kb++mf.map (·.1),ka,g1.append f1,?_,.append g3 f3,g4,fun k hk=> ?_,g6,.append g7 f5,?_,fun p hp lc hlc=>mla _ (g8 p hp lc hlc),fun p hp lc hlc=>mra _ (f6 p hp lc hlc),(fun p hp hn cs j k ver ww lk e1 e2 e3 e4=>mla _ (g12 p hp hn cs j k ver ww lk e1 e2 e3 e4)),by rw [List.map_append,List.map_append,g9',f7],fun μ1 hw hk=> ?_⟩
 · rw [List.filterMap_append,f2];refine(List.Perm.append_right _ g2).trans ?_;rw [List.append_assoc,List.append_assoc];exact List.Perm.append_left _ List.perm_append_comm
 · rcases mpa hk with hk|hk
   · exact g5 k hk
   · exact f4 k hk
 · rw [List.map_append];refine .append g7' ?_;unfold z0x;rw [List.map_map];exact List.Sublist.refl _
 · exact(g10 μ1 fun q hq=>hw q (mla _ hq)).append (f8 μ1 _ (fun q hq=>hw q (mra _ hq)) hk)
end
section
variable {U:Uni} {C:Ctx U} {μ:Mp} {H:Fz} {E:List (AV U)} {h h':za U} {a:Act} {w:World} {o:Oper} {v:AV U}
theorem V.owns {En:Enc U} {μ:Mp} {H:Fz} {av:AV U} {v:Value} (h:V En μ H av v) {k:Nat} (hk:k∈zfl av):∃lc,μ k=some lc∧lc.box=false:=by
 have one:∀{k' ver:Nat} {ww:zai} {u:Value},V En μ H (.own k' ver ww) u→∃lc,μ k'=some lc∧lc.box=false:=by
  intro k' ver ww u hV;cases hV with
  | own hl hb _ _ _=>exact⟨_,hl,hb⟩
 have many:∀(cs:List (AV U)),k∈cs.foldr (fun c acc=>match c with| .own k _ _=>k::acc|_=>acc) []→∃ver ww,AV.own k ver ww∈cs:=by
  intro cs
  induction cs with
  | nil=>intro hk;simp at hk
  | cons c cs ih=>
   intro hk;rw [List.foldr_cons]at hk;have rest:k∈cs.foldr (fun c acc=>match c with| .own k _ _=>k::acc|_=>acc) []→∃ver ww,AV.own k ver ww∈c::cs:=fun hh=>by
    obtain⟨ver,ww,hm⟩:=ih hh;exact⟨ver,ww,mca _ hm⟩
   cases c with
   | own k' ver ww=>
    simp only [List.mem_cons]at hk;rcases hk with rfl|hk
    · exact⟨ver,ww,msa⟩
    · exact rest hk
   | _=>exact rest hk
 cases h with
 | own hl hb hv hp hh=>simp [zfl]at hk;subst hk;exact⟨_,hl,hb⟩
 | agg hn hv=>
  obtain⟨ver,ww,hm⟩:=many _ hk;obtain⟨j,hj⟩:=List.getElem?_of_mem hm;exact one (hv j _ hj)
 | fn hn hv=>
  obtain⟨ver,ww,hm⟩:=many _ hk;obtain⟨j,hj⟩:=List.getElem?_of_mem hm;exact one (hv j _ hj)
 | _=>simp [zfl]at hk
theorem ztm (s:St C μ H E h a w):∀(l:List (Nat × zkr U)) (k:Nat),k∈zii E l→∃lc,μ k=some lc∧lc.box=false
 | [],k,hk=>by simp [zii]at hk
 | (i,m)::l,k,hk=>by
  cases m with
  | val t=>
   rw [zii]at hk;rcases mpa hk with hk|hk
   · exact(s.env i).owns hk
   · exact ztm s l k hk
  | _=>exact ztm s l k (by simpa [zii]using hk)
theorem zak9 (L:ELaws C.En) (s:St C μ H E h a w) {μs:Mp} {Hs:Fz} {ws:World} (S:zfb C.ro μs Hs ws μ H w) (hpk:∀k l,μs k=some l→l.box=true→k∈C.pk) {sp:Spec U} {ds:List (Dyn U)} {E1:List (AV U)} {h1:za U}
 (hd:dec C sp E h=some ds) (he:znk C sp E.length ds=some (E1,h1)):∃μ1 H1,St C μ1 H1 E1 h1 a w∧zfb C.ro μs Hs ws μ1 H1 w∧E1.length=E.length:=by
 unfold dec at hd
 simp only [oba]at hd
 obtain⟨ra,hda,rb,hdb,hd⟩:=hd
 obtain⟨hck,hd⟩:=zcv hd
 cases hd
 obtain⟨hfb,hck⟩:=(baa _ _).mp hck
 obtain⟨hdis,hlent⟩:=(baa _ _).mp hck
 unfold znk at he
 simp only [oba]at he
 obtain⟨q,hea,hB,heb,he⟩:=he
 obtain⟨hok,he⟩:=zcv he
 cases he
 obtain⟨hspec,hdk⟩:=(baa _ _).mp hok
 have hnd:=zgn hdis
 have hnk:=zgn hdk
 obtain⟨hlen,hrest⟩:=zi9 _ _ hda _ _ _ hea
 rw [hrest,zzu]at heb
 have hm:=s.sim.toMem
 haveI:DecidablePred fun k=>∃lc,μ k=some lc∧lc.box=false:=fun k=>Classical.propDecidable _
 obtain⟨bs,hbs⟩:∃bs:List Nat,∀k,k∈bs↔k∈zii E sp.slots++zlz h sp.boxes∧∃lc,μ k=some lc∧lc.box=false:=
  ⟨(zii E sp.slots++zlz h sp.boxes).filter fun k=>decide (∃lc,μ k=some lc∧lc.box=false),fun k=>by rw [List.mem_filter,decide_eq_true_iff]⟩
 obtain⟨mlS,ssS,s1,s2,s3,s4,s4',_,s5⟩:=zis L s bs _ _ hda _ _ _ hea (fun k hk=>(hbs k).2 ⟨mla _ hk,ztm s _ k hk⟩)
 obtain⟨mlB,ssB,hs',kb,ka,b1,b2,b3,b4,b5,b6,b7,b7',b8,b8',b11,b9',b10⟩:=z78 L s bs _ hdb heb (fun k hk h0=>(hbs k).2 ⟨mra _ hk,h0⟩) hfb
 have hkeys:(mlS++mlB).map (·.1)=(q.2.1++hs').map (·.1):=by rw [List.map_append,List.map_append,s4',b9']
 have hsl:(q.2.1++hs').Sublist (q.2.1++(hB++z0x sp.fboxes)):= .append (List.Sublist.refl _) b7
 have hnml:((mlS++mlB).map (·.1)).Nodup:=by
  rw [hkeys];exact(hsl.map _).nodup hnk
 have hwi:=zha hnml
 have hbox:∀k,z3a sp k=true→∀lc,μ k=some lc→zc5 (mlS++mlB) k=some lc:=by
  intro k hk lc hlc;unfold z3a zac4 at hk;rw [Bool.or_eq_true,List.any_eq_true,List.any_eq_true]at hk;rcases hk with⟨p,hp,hpk'⟩|⟨p,hp,hpk'⟩
  · have:=Nat.eq_of_beq_eq_true hpk';subst this;exact hwi _ (mra _ (b8 p hp lc hlc))
  · have:=Nat.eq_of_beq_eq_true hpk';subst this;exact hwi _ (mra _ (b8' p hp lc hlc))
 unfold zab5 at hspec
 obtain⟨hsp0,hsp2⟩:=(baa _ _).mp hspec
 obtain⟨hsp1,hsp3⟩:=(baa _ _).mp hsp0
 obtain⟨t1,t2⟩:=s5 (zc5 (mlS++mlB)) (fun p hp=>hwi p (mla _ hp)) (fun p hp=>⟨fun k lc hk hlc _=>by
  refine hbox k ?_ lc hlc;have:=lat hsp2 p hp;obtain⟨i,m⟩:=p;cases m with
  | ptr k' off=>cases hk;exact this
  | fn f ks=>exact lat this k hk
  | _=>exact hk.elim,fun sl k j k1 ver off cs lk e1 e2 e3 e4 e5=>by
  have:=lat hsp2 p hp;obtain⟨i,m⟩:=p;simp only at e1;subst e1;simp only [List.any_eq_true,baa]at this;obtain⟨b,hb,hb1,hb2⟩:=this;have hb1:=Nat.eq_of_beq_eq_true hb1;subst hb1;have hn:μ b.1≠none:=by
   have hV:=s.env sl;rw [e2]at hV;generalize a.eval (.tmp sl)=u at hV;cases hV with
   | ptr hl _ _=>rw [hl];simp
  exact hwi _ (mra _ (b11 b hb hn cs j k1 ver .full lk e3 e4 hb2 e5))⟩)
 have t3:=b10 (zc5 (mlS++mlB)) (fun p hp=>hwi p (mra _ hp)) (fun p hp k hk lc hlc=>hbox k (lat (lat hsp3 p hp) k hk) lc hlc)
 have hrel:zjq C.En (zc5 (mlS++mlB)) (zcp μ H w bs) w (mlS++mlB) (q.2.1++hs'):=t1.append t3
 have hfr:zm4 μ (mlS++mlB) (ssS++ssB):=s1.append b1
 have hss:(ssS++ssB).filterMap id=ra.2++ssB.filterMap id:=by rw [List.filterMap_append,s2]
 have hmemss:∀k,k∈(ssS++ssB).filterMap id→k∈ra.2++rb.2∨∃cs,zc h k=some (.box cs):=by
  intro k hk;rw [hss]at hk;rcases mpa hk with hk|hk
  · exact .inl (mla _ hk)
  · rcases mpa (b2.subset hk)with hk|hk
    · exact .inr (b5 k hk)
    · exact .inl (mra _ (b4.subset hk))
 have hnss:((ssS++ssB).filterMap id).Nodup:=by
  rw [hss];have hperm:List.Perm (ra.2++ssB.filterMap id) (kb++(ra.2++ka)):=by
   refine(List.Perm.append_left _ b2).trans ?_;rw [←List.append_assoc,←List.append_assoc];exact List.Perm.append_right _ List.perm_append_comm
  rw [hperm.nodup_iff,List.nodup_append];refine⟨(b3.trans b7').nodup ?_,(List.Sublist.append (List.Sublist.refl _) b4).nodup hnd,fun k hk k' hk' e=> ?_⟩
  · rw [List.map_append]at hnk;exact(List.nodup_append.1 hnk).2.1
  · subst e;obtain⟨cs,g1⟩:=b5 k hk;rcases mpa hk' with hk'|hk'
    · obtain⟨_,_,_,g2⟩:=s3 k hk';rw [g1]at g2;cases g2
    · obtain⟨_,_,_,g2⟩:=b6 k (b4.subset hk');rw [g1]at g2;cases g2
 have hfree:∀k l b o,k∈(ssS++ssB).filterMap id→μ k=some l→l.holds b o→zcp μ H w bs b o=none:=by
  intro k l b o hk hl hh;refine zq9 hm (fun k' hk' e=> ?_) hl hh;subst e;obtain⟨g1,lc,g2,g3⟩:=(hbs k').1 hk';rcases hmemss k' hk with g4|⟨cs,g4⟩
  · have:=lat hlent k' g1;simp only [Bool.not_eq_true',List.contains_eq_mem,decide_eq_false_iff_not]at this;exact this g4
  · obtain⟨ob,g5,g6⟩:=s.sim.obj k' lc g2;rw [g4]at g5;cases g5;rw [g6.1]at g3;cases g3
 have hmem1:=zsj hm (zsl hm bs) hfr hnss hfree
 have hplace:∀k l b o,zc5 (mlS++mlB) k=some l→l.holds b o→∃k0 l0,k0∈(ssS++ssB).filterMap id∧μ k0=some l0∧l0.box=l.box∧l0.holds b o:=fun k l b o hk hh=>zra hfr (zhm hk) hh
 refine⟨zc5 (mlS++mlB),zcp μ H w bs,?_,?_,hlen⟩
 · refine {
    env:=fun t=>t2 t _ (s.env t)
    size:=hlen.trans s.size
    sim:={toMem:=hmem1,obj:=fun k l hk=> ?_}
    glob:=s.glob.mono (zgl hm bs)
    defers:=s.defers}
   obtain⟨ob,g1,g2⟩:=zvo hrel (zhm hk);exact⟨ob,zj2 hnk (hsl.subset g1),g2⟩
 · refine {
    robox:=S.robox
    le:=Fz.le_trans S.le (zgl hm bs)
    box:=fun k l hk hb=>hbox k (lat hsp1 k (hpk k l hk hb)) l (S.box k l hk hb)
    wd:=S.wd
    frz:=fun b o hb=> ?_
    loc:=fun k l b o hk hh=> ?_}
   · unfold zcp at hb;split at hb
     · rename_i hx;obtain⟨k,l,g1,g2,g3⟩:=hx;obtain⟨_,lc,g4,g5⟩:=(hbs k).1 g1;rw [g2]at g4;cases g4;exact .inr (S.arr hm g2 g5 g3)
     · exact S.frz b o hb
   · obtain⟨k0,l0,_,g1,_,g2⟩:=hplace k l b o hk hh;exact S.loc k0 l0 b o g1 g2
end
section
variable {U:Uni} {C:Ctx U}
theorem zzd {P:Program} {Q:Exit→Act→World→Prop} {a:Act} {w:World} {c:Code} (I:Nat→Act→World→Prop) (n:Nat) (h₀:I n a w)
 (round:∀n a w,I n a w→c.wp P (Exit.then (fun a' w'=>∃m,m<n∧I m a' w') Q) a w):(Code.loop c).wp P Q a w:=by
 intro b k cs
 have key:∀n a w,I n a w→
  ∃e a' w',Q e a' w'∧Arrives P (lone (b.at a (.code c:: .inLoop c::k)) cs w) b k cs e a' w':=by
  intro n
  induction n using Nat.strongRecOn with
  | _ n ih=>
   intro a w hI;obtain⟨e,a₁,w₁,hq,harr⟩:=round n a w hI b (.inLoop c::k) cs;cases e with
   | normal=>
    obtain⟨m,hlt,hI₁⟩:=hq;obtain⟨e₂,a₂,w₂,hq₂,harr₂⟩:=ih m hlt a₁ w₁ hI₁;exact⟨e₂,a₂,w₂,hq₂,.of_steps (Steps.trans harr (.one step_inLoop)) harr₂⟩
   | exit id=>exact⟨_,a₁,w₁,hq,.pass (x:= .inLoop c) rfl (fun _ _=> .inl (by simp)) harr⟩
   | goto l=>exact⟨_,a₁,w₁,hq,.pass (x:= .inLoop c) rfl (fun _ _=> .inl (by simp)) harr⟩
   | ret=>exact⟨_,a₁,w₁,hq,.pass (x:= .inLoop c) rfl (fun _ _=> .inl (by simp)) harr⟩
   | panic ch=>exact⟨_,a₁,w₁,hq,.pass (x:= .inLoop c) rfl (fun _ _=> .inl (by simp)) harr⟩
   | outgrown=>exact⟨_,a₁,w₁,hq,.pass (x:= .inLoop c) rfl (fun _ _=> .inl (by simp)) harr⟩
 obtain⟨e,a',w',hq,harr⟩:=key n a w h₀
 exact⟨e,a',w',hq,.of_steps (.one step_loop) harr⟩
theorem z16:∀(l:List Nat) (E:List (AV U)),(zv7 l E).length=E.length∧(∀t,t∉l→(zv7 l E).getD t .dead=E.getD t .dead)∧∀t,t∈l→(zv7 l E).getD t .dead= .dead
 | [],E=>⟨rfl,fun _ _=>rfl,fun t ht=>by simp at ht⟩
 | d::l,E=>by
  obtain⟨h1,h2,h3⟩:=z16 l (E.set d .dead);refine⟨by rw [zv7,List.foldl_cons];exact h1.trans (by simp),fun t ht=> ?_,fun t ht=> ?_⟩
  · rw [zv7,List.foldl_cons];refine(h2 t fun hh=>ht (mca _ hh)).trans ?_;have hne:¬d=t:=fun e=>ht (e▸msa);rw [zkn,if_neg (fun hh=>hne hh.1)]
  · rw [zv7,List.foldl_cons]
    by_cases hl:t∈l
    · exact h3 t hl
    · refine(h2 t hl).trans ?_;have hd:d=t:=by
       rcases mco ht with e|e
       · exact e.symm
       · exact absurd e hl
      rw [zkn];split
      · rfl
      · rename_i hh;have:¬t<E.length:=fun x=>hh ⟨hd,x⟩;rw [gda,List.getElem?_eq_none (Nat.le_of_not_lt this)];rfl
theorem zacl (L:CLaws C) (O:OOK C) (X:XOK C) {μs:Mp} {Hs:Fz} {ws:World}:∀(c:Code) (E:List (AV U)) (h:za U) (R:Type) (k:List (AV U)→Option R) (r:R),znc C c=true→zoq C c E h k=some r→
 ∃E',k E'=some r∧E'.length=E.length∧(∀t,t∉zs0 c→E'.getD t .dead=E.getD t .dead)∧
  ∀(μ:Mp) (H:Fz) (a:Act) (w:World) (Q:Exit→Act→World→Prop),St C μ H E h a w→zfb C.ro μs Hs ws μ H w→(∀μ' H' a' w',St C μ' H' E' h a' w'→zfb C.ro μs Hs ws μ' H' w'→Q .normal a' w')→c.wp C.P Q a w:=by
 intro c
 induction c with
 | skip=>
  intro E h R k r _ hc;exact⟨E,hc,rfl,fun _ _=>rfl,fun μ H a w Q s S hq=>wp_skip (hq μ H a w s S)⟩
 | region id ops draw=>
  intro E h R k r hq hc;cases draw with
  | true=>cases hq
  | false=>
   have hq':ops.toList.all (zj1 C)=true:=hq;obtain⟨E',h',hk,rn⟩:=zhv L O X _ true none [] _ _ _ _ r hc (fun g w e=>by cases e);have hh:=rn.quiet rfl hq';subst hh;refine⟨E',hk,rn.len,fun t ht=>rn.same rfl t fun o ho e=>ht (List.mem_filterMap.2 ⟨o,ho,e⟩),fun μ H a w Q s S hq=>wp_region_list ?_⟩;have htop:∀(l:List Oper),∃rows,z8g C ops rows l:=by
    intro l
    induction l with
    | nil=>exact⟨[],.nil⟩
    | cons o l ih=>
     obtain⟨rows,ih⟩:=ih;exact⟨⟨0,zmw o,zlj ops o,zar C o,[],true⟩::rows,.cons ⟨rfl,rfl,rfl,rfl⟩ ih⟩
   obtain⟨rows,ht⟩:=htop ops.toList;exact(rn.run rows ht).sound L.e s S fun μ' H' a' w' s' S'=>hq μ' H' a' w' s' S'
 | seq x y ihx ihy=>
  intro E h R k r hq hc;obtain⟨h1,h2⟩:=(baa _ _).mp (show(znc C x&&znc C y)=true from hq);obtain⟨E1,k1,l1,s1,q1⟩:=ihx E h R _ r h1 hc;obtain⟨E2,k2,l2,s2,q2⟩:=ihy E1 h R k r h2 k1;refine⟨E2,k2,l2.trans l1,fun t ht=>(s2 t fun hh=>ht (mra _ hh)).trans (s1 t fun hh=>ht (mla _ hh)),fun μ H a w Q s S hq=>wp_seq (q1 μ H a w _ s S fun μ' H' a' w' s' S'=> ?_)⟩;exact q2 μ' H' a' w' Q s' S' hq
 | cond c x y ihx ihy=>
  intro E h R k r hq hc;obtain⟨h1,h2⟩:=(baa _ _).mp (show(znc C x&&znc C y)=true from hq);simp only [zoq]at hc;split at hc
  · rename_i t ht;have hv:∀(μ:Mp) (H:Fz) (a:Act) (w:World),St C μ H E h a w→a.eval c= .bool t:=fun μ H a w s=>(ht▸zwd (x:=c) (fun t _=>s.env t) s.glob:V C.En μ H (.sc (.bool t)) (a.eval c)).int;cases t with
    | true=>
     obtain⟨E1,k1,l1,s1,q1⟩:=ihx E h R k r h1 hc;exact⟨E1,k1,l1,fun t ht=>s1 t fun hh=>ht (mla _ hh),fun μ H a w Q s S hq=>wp_cond (hv μ H a w s) (q1 μ H a w Q s S hq)⟩
    | false=>
     obtain⟨E1,k1,l1,s1,q1⟩:=ihy E h R k r h2 hc;exact⟨E1,k1,l1,fun t ht=>s1 t fun hh=>ht (mra _ hh),fun μ H a w Q s S hq=>wp_cond (hv μ H a w s) (q1 μ H a w Q s S hq)⟩
  · cases hc
 | _=>intro E h R k r hq;cases hq
def zkp (id:Nat) (body:Code):Code→Prop
 | .seq a b=>zkp id body a∨zkp id body b
 | .cond _ a b=>zkp id body a∨zkp id body b
 | .block i c=>(i=id∧c= .loop body)∨zkp id body c
 | .loop c=>zkp id body c
 | _=>False
theorem zyn (i:Nat) (c:Code):(∃b,c= .loop b∧zeh (.block i c)=i::zeh b)∨((∀b,c≠ .loop b)∧zeh (.block i c)=zeh c):=by
 cases c<;>first|exact .inl ⟨_,rfl,rfl⟩|exact .inr ⟨(fun _ e=>by cases e),rfl⟩
theorem z2k (id i:Nat) (c:Code):(∃b,c= .loop b∧zeb id (.block i c)=cond (Nat.beq i id) (some b) (zeb id b))∨((∀b,c≠ .loop b)∧zeb id (.block i c)=zeb id c):=by
 cases c<;>first|exact .inl ⟨_,rfl,rfl⟩|exact .inr ⟨(fun _ e=>by cases e),rfl⟩
theorem ziu {id:Nat} {body:Code}:∀{c:Code},zkp id body c→id∈zeh c
 | .seq a b,h=>by
  rcases h with h|h
  · exact mla _ (ziu h)
  · exact mra _ (ziu h)
 | .cond _ a b,h=>by
  rcases h with h|h
  · exact mla _ (ziu h)
  · exact mra _ (ziu h)
 | .block i c,h=>by
  have ih:=fun h=>ziu (id:=id) (body:=body) (c:=c) h;rcases zyn i c with⟨b,rfl,e⟩|⟨hn,e⟩
  · rw [e];rcases h with⟨rfl,_⟩|h
    · exact msa
    · exact mca _ (ih h)
  · rw [e];rcases h with⟨_,e2⟩|h
    · exact absurd e2 (hn _)
    · exact ih h
 | .loop c,h=>ziu (c:=c) h
 | .skip,h=>h.elim
 | .region ..,h=>h.elim
 | .rangeFunc ..,h=>h.elim
 | .exit _,h=>h.elim
 | .scope _,h=>h.elim
 | .label _,h=>h.elim
 | .goto _,h=>h.elim
 | .ret,h=>h.elim
 | .refuse _,h=>h.elim
theorem zib {id:Nat}:∀{c:Code},id∉zeh c→zeb id c=none
 | .seq a b,h=>by
  have h1:=zib (id:=id) (c:=a) (fun x=>h (mla _ x));have h2:=zib (id:=id) (c:=b) (fun x=>h (mra _ x));simp [zeb,h1,h2]
 | .cond _ a b,h=>by
  have h1:=zib (id:=id) (c:=a) (fun x=>h (mla _ x));have h2:=zib (id:=id) (c:=b) (fun x=>h (mra _ x));simp [zeb,h1,h2]
 | .block i c,h=>by
  have ih:=fun h=>zib (id:=id) (c:=c) h;rcases zyn i c with⟨b,rfl,e⟩|⟨hn,e⟩
  · rw [e]at h;have h1:¬i=id:=fun x=>h (x▸msa);have h2:=ih (fun x=>h (mca _ x));simp only [zeb,zca,h1,decide_false,cond_false]at h2⊢;exact h2
  · rw [e]at h;rcases z2k id i c with⟨b,rfl,_⟩|⟨_,e2⟩
    · exact absurd rfl (hn b)
    · rw [e2];exact ih h
 | .loop c,h=>zib (c:=c) h
 | .skip,h=>rfl
 | .region ..,h=>rfl
 | .rangeFunc ..,h=>rfl
 | .exit _,h=>rfl
 | .scope _,h=>rfl
 | .label _,h=>rfl
 | .goto _,h=>rfl
 | .ret,h=>rfl
 | .refuse _,h=>rfl
theorem zli {id:Nat} {body:Code}:∀{c:Code},(zeh c).Nodup→zkp id body c→zeb id c=some body
 | .seq a b,hn,h=>by
  have hn':=List.nodup_append.1 hn;have ih1:=fun x=>zli (id:=id) (body:=body) (c:=a) hn'.1 x;have ih2:=fun x=>zli (id:=id) (body:=body) (c:=b) hn'.2.1 x;rcases h with h|h
  · simp [zeb,ih1 h]
  · have:id∉zeh a:=fun x=>hn'.2.2 id x id (ziu h) rfl;simp [zeb,zib this,ih2 h]
 | .cond _ a b,hn,h=>by
  have hn':=List.nodup_append.1 hn;have ih1:=fun x=>zli (id:=id) (body:=body) (c:=a) hn'.1 x;have ih2:=fun x=>zli (id:=id) (body:=body) (c:=b) hn'.2.1 x;rcases h with h|h
  · simp [zeb,ih1 h]
  · have:id∉zeh a:=fun x=>hn'.2.2 id x id (ziu h) rfl;simp [zeb,zib this,ih2 h]
 | .block i c,hn,h=>by
  have ih:=fun hn h=>zli (id:=id) (body:=body) (c:=c) hn h;rcases zyn i c with⟨b,rfl,e⟩|⟨hnl,e⟩
  · rw [e]at hn;obtain⟨h1,h2⟩:=List.nodup_cons.1 hn;rcases h with⟨rfl,e2⟩|h
    · cases e2;simp [zeb,zca]
    · have hid:id∈zeh b:=ziu (c:= .loop b) h;have:¬i=id:=fun x=>h1 (x▸hid);have h3:=ih h2 h;simp only [zeb,zca,this,decide_false,cond_false]at h3⊢;exact h3
  · rw [e]at hn;rcases z2k id i c with⟨b,rfl,_⟩|⟨_,e2⟩
    · exact absurd rfl (hnl b)
    · rw [e2];rcases h with⟨_,e3⟩|h
      · exact absurd e3 (hnl _)
      · exact ih hn h
 | .loop c,hn,h=>zli (c:=c) hn h
 | .skip,hn,h=>h.elim
 | .region ..,hn,h=>h.elim
 | .rangeFunc ..,hn,h=>h.elim
 | .exit _,hn,h=>h.elim
 | .scope _,hn,h=>h.elim
 | .label _,hn,h=>h.elim
 | .goto _,hn,h=>h.elim
 | .ret,hn,h=>h.elim
 | .refuse _,hn,h=>h.elim
theorem zyp {t:U.Ty} {d:Dyn U} {x:U.den t} (h:d.as t=some x):(⟨t,x⟩:Dyn U)=d:=by
 unfold Dyn.as at h
 obtain⟨ty,val⟩:=d
 split at h
 · rename_i e _;cases h;cases e;rfl
 · cases h
theorem zaes (t:U.Ty) (d:Dyn U):zjm U [t] [d]=d.as t:=rfl
theorem zag5 (d:Dyn U) (l:List (Dyn U)):zjm U [] (d::l)=none:=rfl
theorem zag4 (t:U.Ty):zjm U [t] []=none:=rfl
theorem zag3 (t:U.Ty) (d d':Dyn U) (l:List (Dyn U)):zjm U [t] (d::d'::l)=none:=rfl
theorem zag2 (t t':U.Ty) (ts:List U.Ty):zjm U (t::t'::ts) []=none:=rfl
theorem zado {α β:Type} {a:Option α} {b:Option β} {x:α} {y:β} (h:(a.bind fun x=>b.bind fun y=>some (x,y))=some (x,y)):a=some x∧b=some y:=by
 cases a with
 | none=>cases h
 | some a=>cases b with
  | none=>cases h
  | some b=>cases h;exact⟨rfl,rfl⟩
theorem zzf (ts:List U.Ty):∀(l:List (Dyn U)) (y:PT U ts),zjm U ts l=some y→zen U ts y=l:=by
 induction ts with
 | nil=>
  intro l y h;cases l with
  | nil=>rfl
  | cons d l=>rw [zag5]at h;injection h
 | cons t ts ih=>
  cases ts with
  | nil=>
   intro l y h;cases l with
   | nil=>rw [zag4]at h;injection h
   | cons d l=>
    cases l with
    | nil=>
     rw [zaes]at h;rw [←zyp h];rfl
    | cons d' l=>rw [zag3]at h;injection h
  | cons t2 ts=>
   intro l y h;cases l with
   | nil=>rw [zag2]at h;injection h
   | cons d l=>
    obtain⟨x,y'⟩:=y;obtain⟨h1,h2⟩:=zado (α:=U.den t) (β:=PT U (t2::ts)) h;have:=ih l y' h2;rw [←this,←zyp h1];rfl
end
section
variable {U:Uni} {C:Ctx U}
def zno (C:Ctx U) (μs:Mp) (Hs:Fz) (ws:World) (N:Nat) (E:List (AV U)) (h:za U) (a:Act) (w:World):Prop:=
 ∃μ H,St C μ H E h a w∧zfb C.ro μs Hs ws μ H w∧E.length=N
variable {μs:Mp} {Hs:Fz} {ws:World} {N:Nat}
structure KOk (C:Ctx U) (μs:Mp) (Hs:Fz) (ws:World) (N:Nat) {R0 R:Type} (Fin:R0→Act→World→Prop) (K:Kont U R0 R) (r:R) (Q:Exit→Act→World→Prop):Prop where
 norm:∀E h a w,K.norm E h=some r→zno C μs Hs ws N E h a w→Q .normal a w
 exit:∀i E h a w,K.exit i E h=some r→zno C μs Hs ws N E h a w→Q (.exit i) a w
 ret:∀E h a w,K.ret E h=some r→zno C μs Hs ws N E h a w→Q .ret a w
 res:∀r0 a w,K.res r0=some r→Fin r0 a w→Q .ret a w
def LOK (C:Ctx U) (fn:Func) (ct:Ct U) (L:Nat→Option (Cut U (PT U (ct.results++ct.outs)))):Prop:=∀id cut,L id=some cut→match cut with
 | .plain sp ts f=>∀x y,f x=some y→∃n,zi (zp2 C fn L sp ts id) n x=some y
 | .rets sp ts f=>∀x y,f x=some y→∃n,zp (zp1 C fn ct L sp ts id) n x=some y
variable {fn:Func} {ct:Ct U} {L:Nat→Option (Cut U (PT U (ct.results++ct.outs)))}
def zaf3 (C:Ctx U) (μs:Mp) (Hs:Fz) (ws:World) (N:Nat) (fn:Func) (ct:Ct U) (r0:PT U (ct.results++ct.outs)) (a:Act) (w:World):Prop:=∃E h,zn9 C fn ct E h=some r0∧zno C μs Hs ws N E h a w
def Snd (C:Ctx U) (μs:Mp) (Hs:Fz) (ws:World) (fn:Func) (ct:Ct U) (L:Nat→Option (Cut U (PT U (ct.results++ct.outs)))) (c:Code):Prop:=
 (∀id body,zkp id body c→zhi fn id=some body)→∀{R:Type} (K:Kont U (PT U (ct.results++ct.outs)) R) (E:List (AV U)) (h:za U) (r:R),ziq C L c K E h=some r→
  ∀(a:Act) (w:World) (Q:Exit→Act→World→Prop),zno C μs Hs ws fn.ntmps E h a w→KOk C μs Hs ws fn.ntmps (zaf3 C μs Hs ws fn.ntmps fn ct) K r Q→c.wp C.P Q a w
theorem zpr (L':ELaws C.En) (hpk:∀k l,μs k=some l→l.box=true→k∈C.pk) {E:List (AV U)} {h:za U} {a:Act} {w:World} (hh:zno C μs Hs ws N E h a w) {sp:Spec U} {ts:List U.Ty} {x:PT U ts} {n:Nat} (hn:n=N) {s:List (AV U) × za U}
 (hd:(dec C sp E h).bind (zjm U ts)=some x) (he:znk C sp n (zen U ts x)=some s):zno C μs Hs ws N s.1 s.2 a w:=by
 obtain⟨μ,H,s1,s2,s3⟩:=hh
 rw [oba]at hd
 obtain⟨ds,h1,h2⟩:=hd
 rw [zzf ts ds x h2,hn,←s3]at he
 obtain⟨μ1,H1,t1,t2,t3⟩:=zak9 L' s1 s2 hpk h1 he
 exact⟨μ1,H1,t1,t2,t3.trans s3⟩
theorem zti {γ:Type} {ts:List U.Ty} {d:Option (List (Dyn U))} {f:PT U ts→γ} {r:γ} (h:(d.bind fun l=>(zjm U ts l).bind fun y=>some (f y))=some r):∃y,d.bind (zjm U ts)=some y∧f y=r:=by
 rw [oba]at h
 obtain⟨l,h1,h⟩:=h
 rw [oba]at h
 obtain⟨y,h2,h3⟩:=h
 injection h3 with h3
 exact⟨y,by rw [h1];exact h2,h3⟩
theorem zabd {R0:Type} {L:Nat→Option (Cut U R0)} {id:Nat} {body:Code} (hn:∀b,body≠ .loop b) {R:Type} (K:Kont U R0 R) (E:List (AV U)) (h:za U):
 ziq C L (.block id body) K E h=ziq C L body {K with exit:=fun i E h=>cond (Nat.beq i id) (K.norm E h) (K.exit i E h)} E h:=by
 cases body<;>first|rfl|exact absurd rfl (hn _)
theorem zaa2 (L':ELaws C.En) (hpk:∀k l,μs k=some l→l.box=true→k∈C.pk) {id:Nat} {body:Code} (hbody:zhi fn id=some body) (ih:Snd C μs Hs ws fn ct L body) (hin:∀id b,zkp id b body→zhi fn id=some b)
 {sp:Spec U} {ts:List U.Ty} {y:PT U ts} {Q:Exit→Act→World→Prop} (hQ:∀E h a w,zno C μs Hs ws fn.ntmps E h a w→(dec C sp E h).bind (zjm U ts)=some y→Q (.exit id) a w) (n:Nat) (x:PT U ts) (hit:zi (zp2 C fn L sp ts id) n x=some y)
 {E:List (AV U)} {h:za U} {a:Act} {w:World} (hh:zno C μs Hs ws fn.ntmps E h a w) (hd:(dec C sp E h).bind (zjm U ts)=some x):(Code.loop body).wp C.P Q a w:=by
 refine zzd (fun n a w=>∃x E h,zi (zp2 C fn L sp ts id) n x=some y∧zno C μs Hs ws fn.ntmps E h a w∧(dec C sp E h).bind (zjm U ts)=some x) n ⟨x,E,h,hit,hh,hd⟩ ?_
 rintro n a w ⟨x,E,h,hit,hh,hd⟩
 cases n with
 | zero=>cases hit
 | succ n=>
  rw [zi,oba]at hit;obtain⟨st,h1,h2⟩:=hit;unfold zp2 at h1;rw [hbody]at h1;simp only [zacg,oba]at h1;obtain⟨s,h3,h4⟩:=h1;refine ih hin _ s.1 s.2 st h4 a w _ (zpr L' hpk hh rfl hd h3) ?_;refine⟨fun E' h' a' w' hk hh'=> ?_,fun i E' h' a' w' hk hh'=> ?_,fun E' h' a' w' hk _=>by simp at hk,fun r0 a' w' hk _=>by simp at hk⟩
  · obtain⟨z,hz,e⟩:=zti hk;subst e;exact⟨n,Nat.lt_succ_self n,z,E',h',h2,hh',hz⟩
  · simp only [zca]at hk
    by_cases e:i=id
    · subst e;simp only [decide_true,cond_true]at hk;obtain⟨z,hz,e⟩:=zti hk;subst e;cases h2;exact hQ E' h' a' w' hh' hz
    · simp [e]at hk
theorem zac1 (L':ELaws C.En) (hpk:∀k l,μs k=some l→l.box=true→k∈C.pk) {id:Nat} {body:Code} (hbody:zhi fn id=some body) (ih:Snd C μs Hs ws fn ct L body) (hin:∀id b,zkp id b body→zhi fn id=some b)
 {sp:Spec U} {ts:List U.Ty} {y:PT U (ct.results++ct.outs) ⊕ PT U ts} {Q:Exit→Act→World→Prop} (hQ:∀E h a w z,y= .inr z→zno C μs Hs ws fn.ntmps E h a w→(dec C sp E h).bind (zjm U ts)=some z→Q (.exit id) a w)
 (hR:∀r0 a w,y= .inl r0→zaf3 C μs Hs ws fn.ntmps fn ct r0 a w→Q .ret a w) (n:Nat) (x:PT U ts) (hit:zp (zp1 C fn ct L sp ts id) n x=some y)
 {E:List (AV U)} {h:za U} {a:Act} {w:World} (hh:zno C μs Hs ws fn.ntmps E h a w) (hd:(dec C sp E h).bind (zjm U ts)=some x):(Code.loop body).wp C.P Q a w:=by
 refine zzd (fun n a w=>∃x E h,zp (zp1 C fn ct L sp ts id) n x=some y∧zno C μs Hs ws fn.ntmps E h a w∧(dec C sp E h).bind (zjm U ts)=some x) n ⟨x,E,h,hit,hh,hd⟩ ?_
 rintro n a w ⟨x,E,h,hit,hh,hd⟩
 cases n with
 | zero=>cases hit
 | succ n=>
  rw [zp,oba]at hit;obtain⟨st,h1,h2⟩:=hit;unfold zp1 at h1;rw [hbody]at h1;simp only [z88,oba]at h1;obtain⟨s,h3,h4⟩:=h1;refine ih hin _ s.1 s.2 st h4 a w _ (zpr L' hpk hh rfl hd h3) ?_;refine⟨fun E' h' a' w' hk hh'=> ?_,fun i E' h' a' w' hk hh'=> ?_,fun E' h' a' w' hk hh'=> ?_,fun r0 a' w' hk hf=> ?_⟩
  · obtain⟨z,hz,e⟩:=zti hk;subst e;exact⟨n,Nat.lt_succ_self n,z,E',h',h2,hh',hz⟩
  · simp only [zca]at hk
    by_cases e:i=id
    · subst e;simp only [decide_true,cond_true]at hk;obtain⟨z,hz,e⟩:=zti hk;subst e;cases h2;exact hQ E' h' a' w' z rfl hh' hz
    · simp [e]at hk
  · simp only [oba]at hk;obtain⟨r0,h5,h6⟩:=hk;cases h6;cases h2;exact hR r0 a' w' rfl ⟨E',h',h5,hh'⟩
  · cases hk;cases h2;exact hR r0 a' w' rfl hf
theorem KOk.then {R0 R:Type} {Fin:R0→Act→World→Prop} {K:Kont U R0 R} {r:R} {Q:Exit→Act→World→Prop} (k:KOk C μs Hs ws N Fin K r Q) {f:List (AV U)→za U→Option R} {next:Act→World→Prop}
 (hf:∀E h a w,f E h=some r→zno C μs Hs ws N E h a w→next a w):KOk C μs Hs ws N Fin {K with norm:=f} r (Exit.then next Q):=
 ⟨hf,k.exit,k.ret,k.res⟩
theorem z63 (LC:CLaws C) (O:OOK C) (X:XOK C) (hL:LOK C fn ct L) (hpk:∀k l,μs k=some l→l.box=true→k∈C.pk) (c:Code):Snd C μs Hs ws fn ct L c∧∀body,c= .loop body→Snd C μs Hs ws fn ct L body:=by
 induction c with
 | skip=>exact⟨fun hin R K E h r hc a w Q hh k=>wp_skip (k.norm E h a w hc hh),fun _ e=>by cases e⟩
 | region id ops draw=>
  refine⟨fun hin R K E h r hc a w Q hh k=> ?_,fun _ e=>by cases e⟩;obtain⟨μ,H,s,S,hn⟩:=hh;rw [ziq]at hc;obtain⟨μ1,H1,f,s1⟩:=s.give LC.e (zum ((C.pre id).map fun i=>E.getD i .dead));exact z6c LC O X hc s1 (S.froze s.sim.toMem f) fun E' h' hk hlen μ' H' a' w' s' S'=>k.norm E' h' a' w' hk ⟨μ',H',s',S',by rw [hlen,zoi,hn]⟩
 | seq x y ihx ihy=>
  refine⟨fun hin R K E h r hc a w Q hh k=>wp_seq ?_,fun _ e=>by cases e⟩;have hix:∀id b,zkp id b x→zhi fn id=some b:=fun id b hb=>hin id b (.inl hb);have hiy:∀id b,zkp id b y→zhi fn id=some b:=fun id b hb=>hin id b (.inr hb);rw [ziq]at hc;split at hc
  · rename_i d hbj;rw [oba]at hc;obtain⟨b,h1,h2⟩:=hc;have hq:znc C x=true:=by
     unfold z8a at hbj;split at hbj
     · exact((baa _ _).mp (zcv hbj).1).2
     · cases hbj
    obtain⟨μ,H,s,S,hn⟩:=hh;obtain⟨E',hk,hl,hs,hw⟩:=zacl LC O X x E h _ _ b hq h1;refine hw μ H a w _ s S fun μ' H' a' w' s' S'=> ?_;obtain⟨k1,k2,k3⟩:=z16 (zs0 x) E;have hb:=zob hk;refine ihy.1 hiy K _ h r h2 a' w' Q ⟨μ',H',s'.weak (by rw [zgy,k1,hl]) fun t=> ?_,S',by rw [zgy,k1];exact hn⟩ k;rw [zic,k1];split
    · rename_i e;obtain⟨e1,_⟩:=e;cases e1;exact .inl hb.symm
    · by_cases ht:t∈zs0 x
      · exact .inr (k3 t ht)
      · exact .inl ((k2 t ht).trans (hs t ht).symm)
  split at hc
  · exact ihx.1 hix _ E h r hc a w _ hh (k.then fun E' h' a' w' hk hh'=>ihy.1 hiy K E' h' r hk a' w' Q hh' k)
  · rename_i sp ts hj;rw [oba]at hc;obtain⟨z,h1,h2⟩:=hc;rw [oba]at h2;obtain⟨s,h3,h4⟩:=h2;refine ihx.1 hix _ E h z h1 a w _ hh ⟨fun E' h' a' w' hk hh'=> ?_,fun i E' h' a' w' hk _=>by simp at hk,fun E' h' a' w' hk _=>by simp at hk,fun r0 a' w' hk _=>by simp at hk⟩;obtain⟨_,_,_,_,hn⟩:=hh;exact ihy.1 hiy K s.1 s.2 r h4 a' w' Q (zpr LC.e hpk hh' hn hk h3) k
 | cond c x y ihx ihy=>
  refine⟨fun hin R K E h r hc a w Q hh k=> ?_,fun _ e=>by cases e⟩;rw [ziq]at hc;split at hc
  · rename_i t ht;obtain⟨μ,H,s,S,hn⟩:=hh;have hv:=(ht▸zwd (x:=c) (fun t _=>s.env t) s.glob:V C.En μ H (.sc (.bool t)) (a.eval c)).int;refine wp_cond hv ?_;cases t with
    | true=>exact ihx.1 (fun id b hb=>hin id b (.inl hb)) K E h r hc a w Q ⟨μ,H,s,S,hn⟩ k
    | false=>exact ihy.1 (fun id b hb=>hin id b (.inr hb)) K E h r hc a w Q ⟨μ,H,s,S,hn⟩ k
  · cases hc
 | block id body ih=>
  refine⟨fun hin R K E h r hc a w Q hh k=>wp_block ?_,fun _ e=>by cases e⟩
  by_cases hl:∃b,body= .loop b
  · obtain⟨b,rfl⟩:=hl;have ihb:=ih.2 b rfl;have hbody:=hin id b (.inl ⟨rfl,rfl⟩);have hin':∀id' b',zkp id' b' b→zhi fn id'=some b':=fun id' b' hb=>hin id' b' (.inr hb);have hlen:=hh;obtain⟨_,_,_,_,hn⟩:=hlen;rw [ziq]at hc;split at hc
    · rename_i sp ts f hLid;rw [oba]at hc;obtain⟨x,h1,h2⟩:=hc;rw [oba]at h2;obtain⟨y,h3,h4⟩:=h2;rw [oba]at h4;obtain⟨s,h5,h6⟩:=h4;obtain⟨n,hit⟩:=hL id _ hLid x y h3;refine zaa2 LC.e hpk hbody ihb hin' (fun E' h' a' w' hh' hd'=> ?_) n x hit hh h1;show(if id=id then _ else _);rw [if_pos rfl];exact k.norm s.1 s.2 a' w' h6 (zpr LC.e hpk hh' hn hd' h5)
    · rename_i sp ts f hLid;rw [oba]at hc;obtain⟨x,h1,h2⟩:=hc;rw [oba]at h2;obtain⟨y,h3,h4⟩:=h2;obtain⟨n,hit⟩:=hL id _ hLid x y h3;refine zac1 LC.e hpk hbody ihb hin' (fun E' h' a' w' z hz hh' hd'=> ?_) (fun r0 a' w' hz hf=> ?_) n x hit hh h1
      · subst hz;simp only [zbq,oba]at h4;obtain⟨s,h5,h6⟩:=h4;show(if id=id then _ else _);rw [if_pos rfl];exact k.norm s.1 s.2 a' w' h6 (zpr LC.e hpk hh' hn hd' h5)
      · subst hz;exact k.res r0 a' w' h4 hf
    · cases hc
  · have hn:∀b,body≠ .loop b:=fun b e=>hl ⟨b,e⟩;rw [zabd hn]at hc;refine ih.1 (fun id' b' hb=>hin id' b' (.inr hb)) _ E h r hc a w _ hh ⟨k.norm,fun i E' h' a' w' hk hh'=> ?_,k.ret,k.res⟩;simp only [zca]at hk
    by_cases e:i=id
    · subst e;simp only [decide_true,cond_true]at hk;show(if i=i then _ else _);rw [if_pos rfl];exact k.norm E' h' a' w' hk hh'
    · simp only [e,decide_false,cond_false]at hk;show(if i=id then _ else _);rw [if_neg e];exact k.exit i E' h' a' w' hk hh'
 | loop body ih=>exact⟨fun hin R K E h r hc=>by simp [ziq]at hc,fun b e=>by cases e;exact ih.1⟩
 | exit id=>exact⟨fun hin R K E h r hc a w Q hh k=>wp_exit (k.exit id E h a w hc hh),fun _ e=>by cases e⟩
 | ret=>exact⟨fun hin R K E h r hc a w Q hh k=>wp_ret (k.ret E h a w hc hh),fun _ e=>by cases e⟩
 | rangeFunc=>exact⟨fun hin R K E h r hc=>by simp [ziq]at hc,fun _ e=>by cases e⟩
 | scope=>exact⟨fun hin R K E h r hc=>by simp [ziq]at hc,fun _ e=>by cases e⟩
 | label=>exact⟨fun hin R K E h r hc=>by simp [ziq]at hc,fun _ e=>by cases e⟩
 | goto=>exact⟨fun hin R K E h r hc=>by simp [ziq]at hc,fun _ e=>by cases e⟩
 | refuse=>exact⟨fun hin R K E h r hc=>by simp [ziq]at hc,fun _ e=>by cases e⟩
end
section
variable {U:Uni} {C:Ctx U} {μ:Mp} {H:Fz} {E:List (AV U)} {h h':za U} {a:Act} {w:World} {v:AV U}
theorem z6p {P:Program} {w:World} {α:Type} (f:α→Sem Value):∀(l:List α) (us:List Value),l.length=us.length→(∀(i:Nat) x u,l[i]?=some x→us[i]?=some u→(f x).run P w= .ok u w)→(l.mapM f).run P w= .ok us w
 | [],[],_,_=>by simp
 | x::l,u::us,hl,h=>by
  have:=z6p (P:=P) (w:=w) f l us (by simpa using hl) (fun i x u h1 h2=>h (i+1) x u (by simpa using h1) (by simpa using h2));simp [List.mapM_cons,Sem.run_bind,h 0 x u rfl rfl,this]
 | [],_::_,hl,_=>by simp at hl
 | _::_,[],hl,_=>by simp at hl
def zxp (tmps:Array Value):ResultVar→Sem Value
 | .tmp t=>pure (tmps.getD t undef)
 | .cell a t=>do loadVar t (←asAddr (tmps.getD a undef))
def zy1 (us:List Value):Value:=match us with|[u]=>u|_=> .tuple us.toArray
theorem zzl {fn:Func} {tmps:Array Value} {P:Program} {w:World} {us:List Value} (hl:fn.results.toList.length=us.length) (hr:∀(i:Nat) x u,fn.results.toList[i]?=some x→us[i]?=some u→(zxp tmps x).run P w= .ok u w):
 (results fn tmps).run P w= .ok (zy1 us) w:=by
 have hm:=z6p (P:=P) (w:=w) (zxp tmps) fn.results.toList us hl hr
 have he:(fn.results.mapM (zxp tmps)).run P w= .ok us.toArray w:=by
  rw [Array.mapM_eq_mapM_toList];simp [hm]
 have hf:results fn tmps=(do
  let vs←fn.results.mapM (zxp tmps)
  pure (if h:vs.size=1 then vs[0]else .tuple vs)):=by
  unfold results
  congr 1
 rw [hf,Sem.run_bind,he]
 cases us with
 | nil=>simp [zy1,Result.andThen]
 | cons u us=>cases us with
  | nil=>simp [zy1,Result.andThen]
  | cons u2 us=>simp [zy1,Result.andThen]
def z6d (C:Ctx U) (E:List (AV U)) (h:za U):ResultVar→Option (AV U)
 | .tmp t=>some (E.getD t .dead)
 | .cell a T=>(zj5 C h (E.getD a .dead) fun cs=>some cs).bind (zog C T)
theorem zoo {fresh:List Nat} {rv:ResultVar} {rs:List ResultVar} {ty:U.Ty} {ts:List U.Ty} {l:List (Dyn U) × List Nat × List Nat} (hl:zd1 C E h fresh (rv::rs) (ty::ts)=some l):
 ∃v x ks l',z6d C E h rv=some v∧zkd C h ty v=some x∧ze4 h fresh 0 v.cells=some ks∧zd1 C E h [] rs ts=some l'∧l=(⟨ty,x⟩::l'.1,ks++l'.2.1,zgf fresh 0 v.cells++l'.2.2):=by
 cases rv with
 | tmp t=>
  simp only [zd1,oba]at hl;obtain⟨x,h1,ks,h2,l',h3,h4⟩:=hl;cases h4;exact⟨_,x,ks,l',rfl,h1,h2,h3,rfl⟩
 | cell a T=>
  simp only [zd1]at hl;rw [oba]at hl;obtain⟨v,h0,hl⟩:=hl;simp only [oba]at hl;obtain⟨x,h1,ks,h2,l',h3,h4⟩:=hl;cases h4;exact⟨v,x,ks,l',h0,h1,h2,h3,rfl⟩
theorem zxt (L:CLaws C) (s:St C μ H E h a w) {rv:ResultVar} (hr:z6d C E h rv=some v):∃u,(zxp a.tmps rv).run C.P w= .ok u w∧V C.En μ H v u:=by
 cases rv with
 | tmp t=>
  cases hr;exact⟨_,rfl,s.env t⟩
 | cell p T=>
  simp only [z6d,oba]at hr;obtain⟨cs,h1,h2⟩:=hr
  let o:Oper:={dst:=none,op:= .load T (.tmp p),type:=T,pos:= "",after:= #[],guard:=none}
  obtain⟨b,o',hp,hc⟩:=zw5 L (s.pre o) (x:= .tmp p) (by simp [zar,o]) (by simp [o,Op.operands]) h1;obtain⟨cv,hr,hv⟩:=z6s hc h2;refine⟨cv,?_,hv⟩;simp only [Act.eval]at hp;simp [zxp,hp,asAddr,Sem.run_bind,hr]
theorem zss {k:Nat}:∀(cs:List (AV U)) (j:Nat),k∈zgf [] j cs↔∃ver ww,AV.own k ver ww∈cs
 | [],j=>by simp [zgf]
 | c::cs,j=>by
  have ih:=zss (k:=k) cs (j+1);unfold zgf;cases c with
  | own k' ver' ww'=>
   simp only [List.contains_nil,List.mem_cons,ih];constructor
   · rintro (rfl|⟨ver,ww,h⟩)
     · exact⟨ver',ww',.inl rfl⟩
     · exact⟨ver,ww,.inr h⟩
   · rintro ⟨ver,ww,h|h⟩
     · cases h;exact .inl rfl
     · exact .inr ⟨ver,ww,h⟩
  | _=>
   simp only [List.contains_nil,List.mem_cons,reduceCtorEq,false_or];exact ih
theorem zagw (L:ELaws C.En) (s:St C μ H E h a w) {bs:List Nat} {t:U.Ty} {x:U.den t} {u:Value} (hr:zkd C h t v=some x) (hV:V C.En μ H v u) (hb:∀k∈zgf [] 0 v.cells,k∈bs) (μ1:Mp):V C.En μ1 (zcp μ H w bs) (C.En.value t x) u:=by
 obtain⟨hp,hl,href⟩:=zlt L hr
 refine zva L s.sim.toMem hr hV (fun k hk=>⟨hb k ?_,fun lc hlc=>s.sim.obj k lc hlc⟩) μ1
 rw [zss]
 cases v with
 | own k' ver ww=>
  simp [zfl]at hk;subst hk;exact⟨ver,ww,by simp [AV.cells]⟩
 | agg cs=>
  simp only [AV.cells];simp only [zfl]at hk;clear hr hV hb hp hl href
  induction cs with
  | nil=>simp at hk
  | cons c cs ih=>
   rw [List.foldr_cons]at hk;have rest:k∈cs.foldr (fun c acc=>match c with| .own k _ _=>k::acc|_=>acc) []→∃ver ww,AV.own k ver ww∈c::cs:=fun hh=>by
    obtain⟨ver,ww,hm⟩:=ih hh;exact⟨ver,ww,mca _ hm⟩
   cases c with
   | own k' ver ww=>
    simp only [List.mem_cons]at hk;rcases hk with rfl|hk
    · exact⟨ver,ww,msa⟩
    · exact rest hk
   | _=>exact rest hk
 | fn f cs=>
  exfalso
  have h1:(C.En.enc t x).length=1:=by rw [L.sz,←hl];rfl
  have h2:=href 0 (.fn f cs) ((C.En.enc t x)[0]) rfl (lga (by omega));have hfz:=L.fz t x _ (List.getElem_mem (by omega:0<(C.En.enc t x).length));rcases h2 with e|⟨e,_⟩
  · rw [←e]at hfz;rcases hfz with⟨_,e2,_⟩|⟨_,_,e2⟩<;>cases e2
  · cases e
 | _=>simp [zfl]at hk
theorem zwy (L:CLaws C) (s:St C μ H E h a w) (bs:List Nat):∀(rs:List ResultVar) (ts:List U.Ty) (l:List (Dyn U) × List Nat × List Nat),zd1 C E h [] rs ts=some l→(∀k∈l.2.2,(∃lc,μ k=some lc∧lc.box=false)→k∈bs)→
 l.1.length=ts.length∧l.2.1=[]∧∃us,rs.length=us.length∧(∀(i:Nat) x u,rs[i]?=some x→us[i]?=some u→(zxp a.tmps x).run C.P w= .ok u w)∧∀μ1,F2 (V C.En μ1 (zcp μ H w bs)) (l.1.map fun d=>C.En.value d.ty d.val) us
 | [],[],l,hl,hb=>by
  cases hl;exact⟨rfl,rfl,[],rfl,(fun i x u h1=>by simp at h1),fun μ1=> .nil⟩
 | [],_::_,l,hl,hb=>by simp [zd1]at hl
 | .tmp _::_,[],l,hl,hb=>by simp [zd1]at hl
 | .cell _ _::_,[],l,hl,hb=>by simp [zd1]at hl
 | rv::rs,ty::ts,l,hl,hb=>by
  obtain⟨v,x,ks,l',h1,h2,h3,h4,rfl⟩:=zoo hl;obtain⟨g1,g2,us,g3,g4,g5⟩:=zwy L s bs rs ts l' h4 (fun k hk=>hb k (mra _ hk));obtain⟨u,r1,r2⟩:=zxt L s h1;have hks:=zty 0 ks h3;refine⟨by simp [g1],by simp [hks,g2],u::us,by simp [g3],fun i y u' q1 q2=> ?_,fun μ1=> .cons (zagw L.e s h2 r2 (fun k hk=>hb k (mla _ hk) ?_) μ1) (g5 μ1)⟩
  · cases i with
    | zero=>cases q1;cases q2;exact r1
    | succ i=>exact g4 i y u' (by simpa using q1) (by simpa using q2)
  · rw [zss]at hk;obtain⟨ver,ww,hm⟩:=hk;obtain⟨hp,_,_⟩:=zlt L.e h2;have hc:=V.cells r2 hp;obtain⟨j,hj⟩:=List.getElem?_of_mem hm;have hv:=hc.2 j _ hj;generalize Array.getD u.cells j undef=u0 at hv;cases hv with
    | own hl hb0 _ _ _=>exact⟨_,hl,hb0⟩
theorem z58 (L:CLaws C) (s:St C μ H E h a w) (bs:List Nat) {fresh:List Nat} {rv:ResultVar} {ty:U.Ty} {l:List (Dyn U) × List Nat × List Nat} (hl:zd1 C E h fresh [rv] [ty]=some l) (hb:∀k∈l.2.2,(∃lc,μ k=some lc∧lc.box=false)→k∈bs)
 {base:Nat} {cs':List (AV U)} {hs:za U} {d:Dyn U} (hd:l.1=[d]) (ho:zih base fresh 0 (C.En.enc d.ty d.val)=some (cs',hs)):
 ∃u ml ss,(zxp a.tmps rv).run C.P w= .ok u w∧zm4 μ ml ss∧ss.filterMap id=l.2.1∧(∀k∈l.2.1,∃ver t xs,zc h k=some (.arr ver t xs))∧(∀q∈ml,q.2.box=false)∧ml.map (·.1)=hs.map (·.1)∧
  ∀μ1,zgt μ1 ml→zjq C.En μ1 (zcp μ H w bs) w ml hs∧V C.En μ1 (zcp μ H w bs) (cond (C.En.agg d.ty) (.agg cs') (cs'.headD .dead)) u:=by
 obtain⟨v,x,ks,l',h1,h2,h3,h4,rfl⟩:=zoo hl
 cases h4
 simp only [List.cons.injEq,and_true]at hd
 subst hd
 simp only [List.append_nil]at hb⊢
 obtain⟨u,r1,r2⟩:=zxt L s h1
 obtain⟨hp,hlen,href⟩:=zlt L.e h2
 rw [List.length_map]at hlen
 have hc:=V.cells r2 hp
 have hm:=s.sim.toMem
 have hown:∀(j:Nat) k ver ww,v.cells[j]?=some (.own k ver ww)→(∃lc,μ k=some lc∧lc.box=false):=by
  intro j k ver ww hj;have hv:=hc.2 j _ hj;generalize Array.getD u.cells j undef=u0 at hv;cases hv with
  | own hl hb0 _ _ _=>exact⟨_,hl,hb0⟩
 obtain⟨ml,ss,f1,f2,f3,f5,f6,_,f4⟩:=zqx L.e (zgl hm bs) base fresh v.cells 0 (C.En.enc ty x) cs' hs ks (fun j=>u.cells.getD j undef)
  (fun j c hj=>hc.2 j c hj) (fun k ver ww _ lc hlc=>s.sim.obj k lc hlc) (by rw [hlen,L.e.sz])
  (fun j c c2 hj hj2=>⟨href j _ c2 (by rw [gem,hj];rfl) hj2,L.e.fz _ _ _ (lma hj2)⟩)
  (fun j c hj hcj=>by
   have hjl:=(gea hj).1;have hj2:j<(C.En.enc ty x).length:=by rw [L.e.sz];omega
   exact zs7 L.e hm (hc.2 j c hj) (fun k ver ww e=>by subst e;exact⟨hb k (zpv _ _ _ hj hcj) (hown j k ver ww hj),fun lc hlc=>s.sim.obj k lc hlc⟩) (href j _ _ (by rw [gem,hj];rfl) (lga hj2)) (L.e.fz _ _ _ (List.getElem_mem hj2)) zi6) h3 ho
 refine⟨u,ml,ss,r1,f1,f2,(zlf v.cells 0 ks h3).1,f5,f6,fun μ1 hw=> ?_⟩
 obtain⟨p1,p2⟩:=f4 μ1 hw
 refine⟨p1,?_⟩
 cases ha:C.En.agg ty with
 | true=>
  unfold zkd at h2;rw [ha]at h2;cases v with
  | agg cs=>
   cases r2 with
   | agg hn hv=>
    refine .agg ?_ p2;rw [f3];simpa [AV.cells]using hn
  | _=>simp at h2
 | false=>
  have hc1:cs'.length=1:=by rw [f3,hlen];exact L.e.one ty ha
  have hh:cs'[0]?=some (cs'.headD .dead):=by
   cases cs' with
   | nil=>simp at hc1
   | cons c l=>rfl
  have:=p2 0 _ hh;have hu:u.cells.getD 0 undef=u:=by
   have hv1:v.cells=[v]:=by
    unfold zkd at h2;rw [ha]at h2;cases v with
    | agg cs=>simp at h2
    | _=>rfl
   have:u.cells= #[u]:=by
    cases v with
    | agg cs=>unfold zkd at h2;rw [ha]at h2;simp at h2
    | sc v'=>cases r2;cases u<;>first|rfl|cases hp
    | dead=>cases hp
    | tup=>cases hp
    | _=>exact zyl (V.one rfl r2)
   rw [this];rfl
  rw [hu]at this;exact this
end
section
variable {U:Uni} {C:Ctx U} {μ:Mp} {H:Fz} {E:List (AV U)} {h h':za U} {a:Act} {w:World} {v:AV U}
def zeu:Nat→List (Md U)→List (Nat × U.Ty × List Nat)
 | _,[]=>[]
 | j,.ptr t true owns::ms=>(1000000+j,t,owns)::zeu (j+1) ms
 | j,.ptr _ false _::ms=>zeu (j+1) ms
 | j,.val _::ms=>zeu j ms
 | j,.mov _::ms=>zeu j ms
 | j,.clo _ _::ms=>zeu j ms
 | j,.bclo _ _ _::ms=>zeu (j+1) ms
theorem zki:∀(ms:List (Md U)) (j:Nat) (r:List (Dyn U) × List Nat × List Nat),zop C h j ms=some r→zov C h (zeu j ms)=some (r.1,r.2.1)∧zlz h (zeu j ms)=r.2.2
 | [],j,r,hr=>by cases hr;exact⟨rfl,rfl⟩
 | .ptr t true owns::ms,j,r,hr=>by
  simp only [zop]at hr;split at hr
  · rename_i cs hg;simp only [oba]at hr;obtain⟨x,h1,ks,h2,l,h3,h4⟩:=hr;cases h4;obtain⟨g1,g2⟩:=zki ms (j+1) l h3;refine⟨?_,?_⟩
    · simp only [zeu,zov,hg,h1,h2,g1,obz]
    · simp only [zeu,zlz,hg,g2]
  · cases hr
 | .ptr _ false _::ms,j,r,hr=>zki ms (j+1) r hr
 | .val _::ms,j,r,hr=>zki ms j r hr
 | .mov _::ms,j,r,hr=>zki ms j r hr
 | .clo _ _::ms,j,r,hr=>zki ms j r hr
 | .bclo _ _ _::ms,j,r,hr=>zki ms (j+1) r hr
theorem zk6:∀(ms:List (Md U)) (j:Nat) (ps:List (Pl U)) (ds:List (Dyn U)) (o:za U),ps=zmg ms→zhf C j ps ds=some o→zid C (fun k=>2000000+1000*(k-1000000)) (zeu j ms) ds=some o
 | [],j,ps,ds,o,hp,ho=>by
  subst hp;cases ds with
  | nil=>exact ho
  | cons=>simp [zmg,zhf]at ho
 | .ptr t true owns::ms,j,ps,ds,o,hp,ho=>by
  subst hp;cases ds with
  | nil=>simp [zmg,zhf]at ho
  | cons d ds=>
   simp only [zmg,zhf,oba]at ho;obtain⟨x,h1,oz,h2,r,h3,h4⟩:=ho;cases h4;have:=zk6 ms (j+1) _ ds r rfl h3;simp only [zeu,zid,h1,obz];rw [show 2000000+1000*(1000000+j-1000000)=2000000+1000*j by omega,h2];simp only [this,obz]
 | .ptr _ false _::ms,j,ps,ds,o,hp,ho=>by
  subst hp;simp only [zmg]at ho;cases ds with
  | nil=>exact zk6 ms (j+1) _ [] o rfl (by simpa [zhf]using ho)
  | cons d ds=>exact zk6 ms (j+1) _ (d::ds) o rfl (by simpa [zhf]using ho)
 | .val _::ms,j,ps,ds,o,hp,ho=>zk6 ms j ps ds o (by rw [hp];rfl) ho
 | .mov _::ms,j,ps,ds,o,hp,ho=>zk6 ms j ps ds o (by rw [hp];rfl) ho
 | .clo _ _::ms,j,ps,ds,o,hp,ho=>zk6 ms j ps ds o (by rw [hp];rfl) ho
 | .bclo _ _ _::ms,j,ps,ds,o,hp,ho=>by
  subst hp;simp only [zmg]at ho;cases ds with
  | nil=>exact zk6 ms (j+1) _ [] o rfl (by simpa [zhf]using ho)
  | cons d ds=>exact zk6 ms (j+1) _ (d::ds) o rfl (by simpa [zhf]using ho)
theorem zjv:∀(ms:List (Md U)) (j:Nat) (p:Nat × U.Ty × List Nat),p∈zeu j ms→p.1∈zkl j ms
 | [],j,p,hp=>by simp [zeu]at hp
 | .ptr t true owns::ms,j,p,hp=>by
  simp only [zeu,List.mem_cons]at hp;rcases hp with rfl|hp
  · exact msa
  · exact mca _ (zjv ms (j+1) p hp)
 | .ptr _ false _::ms,j,p,hp=>mca _ (zjv ms (j+1) p hp)
 | .val _::ms,j,p,hp=>zjv ms j p hp
 | .mov _::ms,j,p,hp=>zjv ms j p hp
 | .clo _ _::ms,j,p,hp=>zjv ms j p hp
 | .bclo _ _ _::ms,j,p,hp=>mca _ (zjv ms (j+1) p hp)
theorem zna:∀(ms:List (Md U)) (j k:Nat),k∈zcn j ms→1000000+j≤k
 | [],j,k,hk=>by simp [zcn]at hk
 | .ptr _ true _::ms,j,k,hk=>by have:=zna ms (j+1) k hk;omega
 | .ptr _ false _::ms,j,k,hk=>by
  simp only [zcn,List.mem_cons]at hk;rcases hk with rfl|hk
  · omega
  · have:=zna ms (j+1) k hk;omega
 | .val _::ms,j,k,hk=>zna ms j k hk
 | .mov _::ms,j,k,hk=>zna ms j k hk
 | .clo _ _::ms,j,k,hk=>zna ms j k hk
 | .bclo _ _ _::ms,j,k,hk=>by
  simp only [zcn,List.mem_cons]at hk;rcases hk with rfl|hk
  · omega
  · have:=zna ms (j+1) k hk;omega
theorem zjw:∀(ms:List (Md U)) (j:Nat) (p:Nat × U.Ty × List Nat),p∈zeu j ms→1000000+j≤p.1
 | [],j,p,hp=>by simp [zeu]at hp
 | .ptr t true owns::ms,j,p,hp=>by
  simp only [zeu,List.mem_cons]at hp;rcases hp with rfl|hp
  · exact Nat.le_refl _
  · have:=zjw ms (j+1) p hp;omega
 | .ptr _ false _::ms,j,p,hp=>by have:=zjw ms (j+1) p hp;omega
 | .val _::ms,j,p,hp=>zjw ms j p hp
 | .mov _::ms,j,p,hp=>zjw ms j p hp
 | .clo _ _::ms,j,p,hp=>zjw ms j p hp
 | .bclo _ _ _::ms,j,p,hp=>by have:=zjw ms (j+1) p hp;omega
theorem zlg:∀(ms:List (Md U)) (j:Nat) (p:Nat × U.Ty × List Nat),p∈zeu j ms→p.1∉zcn j ms
 | [],j,p,hp=>by simp [zeu]at hp
 | .ptr t true owns::ms,j,p,hp=>by
  simp only [zeu,List.mem_cons]at hp;intro hk;rcases hp with rfl|hp
  · have:=zna ms (j+1) _ hk;simp only at this;omega
  · exact zlg ms (j+1) p hp hk
 | .ptr _ false _::ms,j,p,hp=>by
  intro hk;simp only [zcn,List.mem_cons]at hk;rcases hk with e|hk
  · have:=zjw ms (j+1) p hp;omega
  · exact zlg ms (j+1) p hp hk
 | .val _::ms,j,p,hp=>zlg ms j p hp
 | .mov _::ms,j,p,hp=>zlg ms j p hp
 | .clo _ _::ms,j,p,hp=>zlg ms j p hp
 | .bclo _ _ _::ms,j,p,hp=>by
  intro hk;simp only [zcn,List.mem_cons]at hk;rcases hk with e|hk
  · have:=zjw ms (j+1) p hp;omega
  · exact zlg ms (j+1) p hp hk
theorem zl1:∀(ms:List (Md U)) (j k:Nat),k∈zcn j ms→k∈zkl j ms
 | [],j,k,hk=>by simp [zcn]at hk
 | .ptr _ true _::ms,j,k,hk=>mca _ (zl1 ms (j+1) k hk)
 | .ptr _ false _::ms,j,k,hk=>by
  simp only [zcn,List.mem_cons]at hk;rcases hk with rfl|hk
  · exact msa
  · exact mca _ (zl1 ms (j+1) k hk)
 | .val _::ms,j,k,hk=>zl1 ms j k hk
 | .mov _::ms,j,k,hk=>zl1 ms j k hk
 | .clo _ _::ms,j,k,hk=>zl1 ms j k hk
 | .bclo _ _ _::ms,j,k,hk=>by
  simp only [zcn,List.mem_cons]at hk;rcases hk with rfl|hk
  · exact msa
  · exact mca _ (zl1 ms (j+1) k hk)
theorem zla {hh:za U} (hobj:∀k l,μ k=some l→∃ob,zc hh k=some ob∧zcl C.En μ H w l ob):∀(ms:List (Md U)) (j:Nat) (ds:List (Dyn U)) (E0:List (AV U)) (h0:za U) (us:List Value),zci C j ms ds=some (E0,h0)→(∀p∈h0,zc hh p.1=some p.2)→F2 (V C.En μ H) E0 us→∀k∈zkl j ms,∃l,μ k=some l∧l.box=true
 | [],j,ds,E0,h0,us,ho,hsb,hA,k,hk=>by simp [zkl]at hk
 | .val t::ms,j,ds,E0,h0,us,ho,hsb,hA,k,hk=>by
  cases ds with
  | nil=>simp [zci]at ho
  | cons d ds=>
   simp only [zci,oba]at ho;obtain⟨x,h1,⟨E1,h1'⟩,h2,h3⟩:=ho;cases h3;cases hA with
   | cons _ hA=>exact zla hobj ms j ds _ h1' _ h2 hsb hA k hk
 | .mov t::ms,j,ds,E0,h0,us,ho,hsb,hA,k,hk=>by
  cases ds with
  | nil=>simp [zci]at ho
  | cons d ds=>
   simp only [zci,oba]at ho;obtain⟨x,h1,⟨E1,h1'⟩,h2,h3⟩:=ho;cases h3;cases hA with
   | cons _ hA=>exact zla hobj ms j ds _ h1' _ h2 (fun p hp=>hsb p (mca _ hp)) hA k hk
 | .ptr t wr owns::ms,j,ds,E0,h0,us,ho,hsb,hA,k,hk=>by
  cases ds with
  | nil=>simp [zci]at ho
  | cons d ds=>
   simp only [zci,oba]at ho;obtain⟨x,h1,⟨E1,h1'⟩,h2,h3⟩:=ho;split at h3
   · cases h3;cases hA with
     | cons hV hA=>
      simp only [zkl,List.mem_cons]at hk;rcases hk with rfl|hk
      · cases hV with
        | ptr hl hb _=>exact⟨_,hl,hb⟩
      · exact zla hobj ms (j+1) ds _ h1' _ h2 (fun p hp=>hsb p (by simp [hp])) hA k hk
   · cases h3
 | .clo f n::ms,j,ds,E0,h0,us,ho,hsb,hA,k,hk=>by
  simp only [zci,oba]at ho;obtain⟨⟨E1,h1'⟩,h2,h3⟩:=ho;cases h3;cases hA with
  | cons hV hA=>
   obtain⟨vs,_,hF⟩:=zr8 hV;have:=hF.append hA;simp only [List.take_append_drop]at this;exact zla hobj ms j ds _ h1' _ h2 hsb this k hk
 | .bclo t f n::ms,j,ds,E0,h0,us,ho,hsb,hA,k,hk=>by
  simp only [zci,oba]at ho;obtain⟨⟨E1,h1'⟩,h2,h3⟩:=ho;cases h3;cases hA with
  | cons hV hA=>
   cases hV with
   | ptr hl hb hat=>
    simp only [zkl,List.mem_cons]at hk;rcases hk with rfl|hk
    · exact⟨_,hl,hb⟩
    · obtain⟨ob,g1,g2⟩:=hobj _ _ hl;have:=hsb _ msa;rw [g1]at this;cases this;obtain⟨_,_,b,o,_,_,hc⟩:=g2;obtain⟨cv,_,_,hv⟩:=hc 0 _ rfl;obtain⟨vs,_,hF⟩:=zr8 hv;have:=hF.append hA;simp only [List.take_append_drop]at this;exact zla hobj ms (j+1) ds _ h1' _ h2 (fun p hp=>hsb p (mca _ hp)) this k hk
theorem zn1:∀(ms:List (Md U)) (j:Nat) (ds:List (Dyn U)) (E0:List (AV U)) (h0:za U),zci C j ms ds=some (E0,h0)→∀k cs,(k,Ob.box cs)∈h0→k∈zkl j ms
 | [],j,ds,E0,h0,ho,k,cs,hk=>by
  cases ds with
  | nil=>cases ho;simp at hk
  | cons=>simp [zci]at ho
 | .val t::ms,j,ds,E0,h0,ho,k,cs,hk=>by
  cases ds with
  | nil=>simp [zci]at ho
  | cons d ds=>
   simp only [zci,oba]at ho;obtain⟨x,h1,⟨E1,h1'⟩,h2,h3⟩:=ho;cases h3;exact zn1 ms j ds _ _ h2 k cs hk
 | .mov t::ms,j,ds,E0,h0,ho,k,cs,hk=>by
  cases ds with
  | nil=>simp [zci]at ho
  | cons d ds=>
   simp only [zci,oba]at ho;obtain⟨x,h1,⟨E1,h1'⟩,h2,h3⟩:=ho;cases h3;simp only [List.mem_cons,Prod.mk.injEq]at hk;rcases hk with⟨_,hk⟩|hk
   · cases hk
   · exact zn1 ms j ds _ _ h2 k cs hk
 | .ptr t wr owns::ms,j,ds,E0,h0,ho,k,cs,hk=>by
  cases ds with
  | nil=>simp [zci]at ho
  | cons d ds=>
   simp only [zci,oba]at ho;obtain⟨x,h1,⟨E1,h1'⟩,h2,h3⟩:=ho;split at h3
   · rename_i oz hoz;cases h3;simp only [List.mem_cons,Prod.mk.injEq,List.mem_append]at hk;rcases hk with⟨rfl,_⟩|hk|hk
     · exact msa
     · obtain⟨_,_,e⟩:=zpm _ _ _ _ hoz _ hk;cases e
     · exact mca _ (zn1 ms (j+1) ds _ _ h2 k cs hk)
   · cases h3
 | .clo f n::ms,j,ds,E0,h0,ho,k,cs,hk=>by
  simp only [zci,oba]at ho;obtain⟨⟨E1,h1'⟩,h2,h3⟩:=ho;cases h3;exact zn1 ms j ds _ _ h2 k cs hk
 | .bclo t f n::ms,j,ds,E0,h0,ho,k,cs,hk=>by
  simp only [zci,oba]at ho;obtain⟨⟨E1,h1'⟩,h2,h3⟩:=ho;cases h3;simp only [List.mem_cons,Prod.mk.injEq]at hk;rcases hk with⟨rfl,_⟩|hk
  · exact msa
  · exact mca _ (zn1 ms (j+1) ds _ _ h2 k cs hk)
theorem ztf {base:Nat→Nat}:∀(l:List (Nat × U.Ty × List Nat)) (ds:List (Dyn U)) (hs:za U),zid C base l ds=some hs→∀k cs,(k,Ob.box cs)∈hs→∃p∈l,p.1=k
 | [],ds,hs,he,k,cs,hk=>by
  cases ds with
  | nil=>cases he;simp at hk
  | cons=>simp [zid]at he
 | (k0,t,owns)::l,ds,hs,he,k,cs,hk=>by
  cases ds with
  | nil=>simp [zid]at he
  | cons d ds=>
   simp only [zid,oba]at he;obtain⟨x,h1,he⟩:=he;split at he
   · rename_i oz hoz;rw [oba]at he;obtain⟨r,h2,h3⟩:=he;cases h3;simp only [List.mem_cons,Prod.mk.injEq,List.mem_append]at hk;rcases hk with⟨rfl,_⟩|hk|hk
     · exact⟨_,msa,rfl⟩
     · obtain⟨_,_,e⟩:=zpm _ _ _ _ hoz _ hk;cases e
     · obtain⟨p,hp,e⟩:=ztf l ds r h2 k cs hk;exact⟨p,mca _ hp,e⟩
   · cases he
theorem zyh:∀{l m:List Nat},zyi l m=true→l=m
 | [],[],_=>rfl
 | [],_::_,h=>by cases h
 | _::_,[],h=>by cases h
 | a::l,b::m,h=>by
  simp only [zyi,baa]at h;rw [Nat.eq_of_beq_eq_true h.1,zyh h.2]
theorem zph:∀(rs:List ResultVar) (ts:List U.Ty) (fresh:List Nat) (l:List (Dyn U) × List Nat × List Nat),zd1 C E h fresh rs ts=some l→l.1.length=ts.length∧rs.length=ts.length
 | [],[],fresh,l,hl=>by cases hl;exact⟨rfl,rfl⟩
 | [],_::_,fresh,l,hl=>by simp [zd1]at hl
 | .tmp _::_,[],fresh,l,hl=>by simp [zd1]at hl
 | .cell _ _::_,[],fresh,l,hl=>by simp [zd1]at hl
 | rv::rs,ty::ts,fresh,l,hl=>by
  obtain⟨v,x,ks,l',h1,h2,h3,h4,rfl⟩:=zoo hl;obtain⟨g1,g2⟩:=zph rs ts [] l' h4;exact⟨by simp [g1],by simp [g2]⟩
theorem z57 (L:CLaws C) (s:St C μ H E h a w) (bs:List Nat) {fn:Func} {fresh:List Nat} {ts:List U.Ty} {l:List (Dyn U) × List Nat × List Nat} (hl:zd1 C E h fresh fn.results.toList ts=some l)
 (hb:∀k∈l.2.2,(∃lc,μ k=some lc∧lc.box=false)→k∈bs) {base:Nat} {r:AV U × za U} (hr:zb6 C base fresh l.1=some r):
 ∃u ml ss,(results fn a.tmps).run C.P w= .ok u w∧zm4 μ ml ss∧ss.filterMap id=l.2.1∧(∀k∈l.2.1,∃ver t xs,zc h k=some (.arr ver t xs))∧(∀q∈ml,q.2.box=false)∧ml.map (·.1)=r.2.map (·.1)∧
  ∀μ1,zgt μ1 ml→zjq C.En μ1 (zcp μ H w bs) w ml r.2∧V C.En μ1 (zcp μ H w bs) r.1 u:=by
 obtain⟨hlen,hlen2⟩:=zph _ _ _ _ hl
 cases fresh with
 | nil=>
  obtain⟨g1,g2,us,g3,g4,g5⟩:=zwy L s bs _ _ _ hl hb;have hrun:=zzl g3 g4;have hr2:r.2=[]:=zsc (r1:=r.1) (qr:=r.2) hr;refine⟨zy1 us,[],[],hrun,.nil,by rw [g2];rfl,by rw [g2];exact fun k hk=>by simp at hk,(fun q hq=>by simp at hq),by rw [hr2];rfl,fun μ1 _=>⟨by rw [hr2];exact .nil,?_⟩⟩;have hF:=g5 μ1;unfold zb6 at hr;split at hr
  · rename_i d hd;rw [hd]at hF;cases hr;cases hF with
    | cons h1 h2=>cases h2;exact h1
  · rename_i l1 hne;cases hr;have hne':∀u,us≠[u]:=by
     intro u e;subst e;have:=hF.length;simp only [List.length_map,List.length_cons,List.length_nil]at this;obtain⟨d,hd⟩:=List.length_eq_one_iff.1 this;exact hne d hd
    have hu:zy1 us= .tuple us.toArray:=by
     cases us with
     | nil=>rfl
     | cons u us=>cases us with
      | nil=>exact absurd rfl (hne' u)
      | cons=>rfl
    rw [hu];refine .tup (by simpa using hF.length) fun j c hj=> ?_;have hjl:=(gea hj).1;have hju:j<us.length:=by rw [←hF.length];exact hjl
    have:=hF.get j c us[j] hj (lga hju);have e:us.toArray.getD j undef=us[j]:=by simp [Array.getD,hju]
    rw [e];exact this
 | cons f0 fs=>
  unfold zb6 at hr;split at hr
  · rename_i d hd;simp only [oba]at hr;obtain⟨⟨cs',hs⟩,h1,h2⟩:=hr;cases h2;have hts:ts.length=1:=by rw [←hlen,hd];rfl
    obtain⟨ty,rfl⟩:=List.length_eq_one_iff.1 hts;obtain⟨rv,hrv⟩:=List.length_eq_one_iff.1 (hlen2.trans hts);rw [hrv]at hl;obtain⟨u,ml,ss,r1,r2,r3,r4,r5,r6,r7⟩:=z58 L s bs hl hb hd h1;refine⟨u,ml,ss,?_,r2,r3,r4,r5,r6,r7⟩;have:=zzl (fn:=fn) (tmps:=a.tmps) (P:=C.P) (w:=w) (us:=[u]) (by rw [hrv];rfl) (fun i x u' q1 q2=>by
     rw [hrv]at q1;cases i with
     | zero=>cases q1;cases q2;exact r1
     | succ i=>simp at q1)
    exact this
  · simp at hr
end
section
variable {U:Uni} {C:Ctx U} {μ:Mp} {H:Fz} {E:List (AV U)} {h h':za U} {a:Act} {w:World} {v:AV U}
theorem zzq (L:CLaws C) {fn:Func} {ct:Ct U} {μ0:Mp} {H0:Fz} {w0:World} (hpk:∀k∈zkl 0 ct.params,∃lc,μ0 k=some lc∧lc.box=true)
 (hro:C.ro=zcn 0 ct.params) (hok:∀y,z2e C ct y=true) (s:St C μ H E h a w) (S:zfb C.ro μ0 H0 w0 μ H w) {y:PT U (ct.results++ct.outs)} (hf:zn9 C fn ct E h=some y):
 ∃u,(results fn a.tmps).run C.P w= .ok u w∧z3l C ct ct.fresh μ0 H0 w0 y u w:=by
 unfold zn9 at hf
 rw [oba]at hf
 obtain⟨l,hl,hf⟩:=hf
 rw [oba]at hf
 obtain⟨l',hl',hf⟩:=hf
 obtain⟨hck,hy⟩:=zcv hf
 have hoky:=hok y
 unfold z2e at hoky
 split at hoky
 · rename_i r o hr ho;obtain⟨hdis,hlent⟩:=(baa _ _).mp hck;have hdk:=hoky;have hnd:=zgn hdis;have hnk:=zgn hdk;have hty:=zzf _ _ _ hy;obtain⟨hlen,_⟩:=zph _ _ _ _ hl;have htake:(zen U (ct.results++ct.outs) y).take ct.results.length=l.1:=by rw [hty,←hlen];exact List.take_left
   have zqt:(zen U (ct.results++ct.outs) y).drop ct.results.length=l'.1:=by rw [hty,←hlen];exact List.drop_left
   rw [htake]at hr;rw [zqt]at ho;have hm:=s.sim.toMem
   haveI:DecidablePred fun k=>∃lc,μ k=some lc∧lc.box=false:=fun k=>Classical.propDecidable _
   obtain⟨bs,hbs⟩:∃bs:List Nat,∀k,k∈bs↔k∈l.2.2++l'.2.2∧∃lc,μ k=some lc∧lc.box=false:=
    ⟨(l.2.2++l'.2.2).filter fun k=>decide (∃lc,μ k=some lc∧lc.box=false),fun k=>by rw [List.mem_filter,decide_eq_true_iff]⟩
   obtain⟨u,mlF,ssF,hrun,s1,s2,s3,s4,s4',s5⟩:=z57 L s bs hl (fun k hk h1=>(hbs k).2 ⟨mla _ hk,h1⟩) hr;obtain⟨hdb,hbk⟩:=zki _ _ _ hl';have heb:=zk6 ct.params 0 _ _ o rfl ho;obtain⟨mlB,ssB,hs',kb,ka,b1,b2,b3,b4,b5,b6,b7,b7',b8,b9,_,b9',b11,b10⟩:=zuc L.e s bs _ _ _ hdb _ heb (fun k hk h1=>(hbs k).2 ⟨mra _ (by rw [←hbk];exact hk),h1⟩);have hhs:hs'=o:=b11 fun p hp=>by
    obtain⟨lc,h1,h2⟩:=hpk p.1 (zjv _ _ _ hp);rw [S.box _ _ h1 h2];simp
   subst hhs;have hkeys:(mlF++mlB).map (·.1)=(r.2++hs').map (·.1):=by rw [List.map_append,List.map_append,s4',b9']
   have hnml:((mlF++mlB).map (·.1)).Nodup:=by rw [hkeys];exact hnk
   have hwi:=zha hnml;obtain⟨t1,t2⟩:=s5 (zc5 (mlF++mlB)) (fun p hp=>hwi p (mla _ hp));have t3:=b10 (zc5 (mlF++mlB)) (fun p hp=>hwi p (mra _ hp));have hrel:zjq C.En (zc5 (mlF++mlB)) (zcp μ H w bs) w (mlF++mlB) (r.2++hs'):=t1.append t3;have hfr:zm4 μ (mlF++mlB) (ssF++ssB):=s1.append b1;have hss:(ssF++ssB).filterMap id=l.2.1++ssB.filterMap id:=by rw [List.filterMap_append,s2]
   have hmemss:∀k,k∈(ssF++ssB).filterMap id→k∈l.2.1++l'.2.1∨∃cs,zc h k=some (.box cs):=by
    intro k hk;rw [hss]at hk;rcases mpa hk with hk|hk
    · exact .inl (mla _ hk)
    · rcases mpa (b2.subset hk)with hk|hk
      · exact .inr (b5 k hk)
      · exact .inl (mra _ (b4.subset hk))
   have hnss:((ssF++ssB).filterMap id).Nodup:=by
    rw [hss];have hperm:List.Perm (l.2.1++ssB.filterMap id) (kb++(l.2.1++ka)):=by
     refine(List.Perm.append_left _ b2).trans ?_;rw [←List.append_assoc,←List.append_assoc];exact List.Perm.append_right _ List.perm_append_comm
    rw [hperm.nodup_iff,List.nodup_append];refine⟨(b3.trans b7').nodup ?_,(List.Sublist.append (List.Sublist.refl _) b4).nodup hnd,fun k hk k' hk' e=> ?_⟩
    · rw [List.map_append]at hnk;exact(List.nodup_append.1 hnk).2.1
    · subst e;obtain⟨cs,g1⟩:=b5 k hk;rcases mpa hk' with hk'|hk'
      · obtain⟨_,_,_,g2⟩:=s3 k hk';rw [g1]at g2;cases g2
      · obtain⟨_,_,_,g2⟩:=b6 k (b4.subset hk');rw [g1]at g2;cases g2
   have hfree:∀k l b o,k∈(ssF++ssB).filterMap id→μ k=some l→l.holds b o→zcp μ H w bs b o=none:=by
    intro k lk b o hk hlk hh;refine zq9 hm (fun k' hk' e=> ?_) hlk hh;subst e;obtain⟨g1,lc,g2,g3⟩:=(hbs k').1 hk';rcases hmemss k' hk with g4|⟨cs,g4⟩
    · have:=lat hlent k' g1;simp only [Bool.not_eq_true',List.contains_eq_mem,decide_eq_false_iff_not]at this;exact this g4
    · obtain⟨ob,g5,g6⟩:=s.sim.obj k' lc g2;rw [g4]at g5;cases g5;rw [g6.1]at g3;cases g3
   have hmem1:=zsj hm (zsl hm bs) hfr hnss hfree;have hboxes:∀k lk,(k,lk)∈mlF++mlB→lk.box=true→μ0 k=some lk∧(zcn 0 ct.params).contains k=false:=by
    intro k lk hk hb;rcases mpa hk with hk|hk
    · rw [s4 _ hk]at hb;cases hb
    · have hμ:=b9 _ hk hb;obtain⟨ob,g1,g2⟩:=zvo t3 hk;have hob:∃cs,ob= .box cs:=by
       cases ob with
       | box cs=>exact⟨cs,rfl⟩
       | arr=>have:=g2.1;rw [hb]at this;cases this
      obtain⟨cs,rfl⟩:=hob;obtain⟨p,hp,e⟩:=ztf _ _ _ heb k cs g1;subst e;obtain⟨l0,e1,e2⟩:=hpk p.1 (zjv _ _ _ hp);have:=S.box _ _ e1 e2;rw [hμ]at this;cases this;exact⟨e1,by simpa using zlg _ _ _ hp⟩
   refine⟨u,hrun,r.1,r.2,hs',mlF++mlB,zcp μ H w bs,by rw [htake];exact hr,by rw [zqt];exact ho,hnml,hrel,hmem1,t2,Fz.le_trans S.le (zgl hm bs),fun k lk hk hb=>(hboxes k lk hk hb).1,hro▸S.wd,fun b o hb=> ?_,fun k lk b o hk hh=> ?_⟩
   · rw [←hro];unfold zcp at hb;split at hb
     · rename_i hx;obtain⟨k,lk,g1,g2,g3⟩:=hx;obtain⟨_,lc,g4,g5⟩:=(hbs k).1 g1;rw [g2]at g4;cases g4;exact .inr (S.arr hm g2 g5 g3)
     · exact S.frz b o hb
   · cases hb:lk.box with
     | true=>
      obtain⟨e1,e2⟩:=hboxes k lk hk hb;exact .inr ⟨k,lk,e1,e2,hh⟩
     | false=>
      obtain⟨k0,l0,_,g1,g2,g3⟩:=zra hfr hk hh;rcases S.arr hm g1 (by rw [g2];exact hb) g3 with e|⟨k1,l1,e1,e2,e3,e4⟩
      · exact .inl e
      · exact .inr ⟨k1,l1,e1,hro▸e2,e4⟩
 · cases hoky
theorem zacz (L:CLaws C) (O:OOK C) (X:XOK C) {f:FuncId} {fn:Func} {ct:Ct U} {Lp:Nat→Option (Cut U (PT U (ct.results++ct.outs)))} (hf:C.P.funcs[f]?=some fn) (hnm:(fn.name== "runtime.NumGoroutine")=false) (hbs:fn.body.isSome=true) (hL:LOK C fn ct Lp)
 (hok:∀y,z2e C ct y=true)
 (hct:∀ds y,ct.fn ds=some y→runF C fn ct Lp ds=some y):zif C f ct:=by
 refine⟨⟨fn,hf,hbs,hnm⟩,fun ds y hy E0 h0 ha μ H w us hA hS hG=> ?_⟩
 have hrun:=hct ds y hy
 unfold runF at hrun
 split at hrun
 · cases hrun
 · rename_i body hbody;rw [ha]at hrun;simp only [obz]at hrun;obtain⟨hck,hrun⟩:=zcv hrun;obtain⟨h1,hck⟩:=(baa _ _).mp hck;obtain⟨h2,hck⟩:=(baa _ _).mp hck;obtain⟨h3,h4⟩:=(baa _ _).mp hck;have hro:=zyh h2;have hpkk:=zyh h3;have hnd:=zgn h4;have hle:=Nat.le_of_ble_eq_true h1;obtain⟨hargs,hnk⟩:=ztk ha;have hAl:E0.length=us.length:=hA.length;have hpk0:∀k∈zkl 0 ct.params,∃lc,μ k=some lc∧lc.box=true:=zla hS.obj _ _ _ _ _ _ hargs (fun p hp=>zj2 hnk hp) hA;have hpk:∀k l,μ k=some l→l.box=true→k∈C.pk:=fun k l hk hb=>by
    rw [hpkk];obtain⟨ob,g1,g2⟩:=hS.obj k l hk;cases ob with
    | box cs=>exact zn1 _ _ _ _ _ hargs k cs (zsm g1)
    | arr=>have:=g2.1;rw [hb]at this;cases this
   have hrob:∀k l,C.ro.contains k=true→μ k=some l→l.box=true:=fun k l hk hl=>by
    rw [hro]at hk;obtain⟨l0,g1,g2⟩:=hpk0 k (zl1 _ _ _ (by simpa using hk));rw [hl]at g1;cases g1;exact g2
   have hlen:(E0++List.replicate (fn.ntmps-E0.length) (.dead:AV U)).length=fn.ntmps:=by simp;omega
   have hsize:(us.toArray++Array.replicate (fn.ntmps-us.toArray.size) undef).size=fn.ntmps:=by simp;omega
   have hst:St C μ H (E0++List.replicate (fn.ntmps-E0.length) .dead) h0 {tmps:=us.toArray++Array.replicate (fn.ntmps-us.toArray.size) undef,defers:=[]} w:=by
    refine {env:=fun t=> ?_,size:=by rw [hlen,hsize],sim:=hS,glob:=hG,defers:=rfl}
    by_cases ht:t<E0.length
    · have e1:(E0++List.replicate (fn.ntmps-E0.length) (.dead:AV U)).getD t .dead=E0[t]:=by
       rw [gda,List.getElem?_append_left ht,lga ht];rfl
      have htu:t<us.length:=by omega
      have e2:({tmps:=us.toArray++Array.replicate (fn.ntmps-us.toArray.size) undef,defers:=[]}:Act).eval (.tmp t)=us[t]:=by
       simp only [Act.eval,agd];rw [Array.getElem?_append_left (by simpa using htu)];simp [htu]
      rw [e1,e2];exact hA.get t _ _ (lga ht) (lga htu)
    · have e1:(E0++List.replicate (fn.ntmps-E0.length) (.dead:AV U)).getD t .dead= .dead:=by
       rw [gda,List.getElem?_append_right (by omega),List.getElem?_replicate];split<;>rfl
      rw [e1];exact .dead _
   refine calls_of_wp hf hbody ?_;refine(z63 (μs:=μ) (Hs:=H) (ws:=w) L O X hL hpk body).1 (fun id b hb=> ?_) _ _ _ y hrun _ w _ ⟨μ,H,hst,.first hrob,hlen⟩ ?_
   · unfold zhi;rw [hbody];exact zli hnd hb
   · have fin:∀E h a w',zn9 C fn ct E h=some y→zno C μ H w fn.ntmps E h a w'→a.defers=[]∧∃v,(results fn a.tmps).run C.P w'= .ok v w'∧z3l C ct ct.fresh μ H w y v w':=by
      intro E h a w' hfn hh;obtain⟨μ1,H1,s1,S1,_⟩:=hh;exact⟨s1.defers,zzq L hpk0 hro hok s1 S1 hfn⟩
     refine⟨fun E h a w' hk hh=>fin E h a w' hk hh,fun i E h a w' hk _=>by simp at hk,fun E h a w' hk hh=>fin E h a w' hk hh,fun r0 a w' hk hf0=> ?_⟩;cases hk;obtain⟨E,h,g1,g2⟩:=hf0;exact fin E h a w' g1 g2
theorem zlb {C C':Ctx U} (e:C.En=C'.En):∀(ms:List (Md U)) (j:Nat) (ds:List (Dyn U)),zci C j ms ds=zci C' j ms ds
 | [],j,[]=>rfl
 | [],j,_::_=>rfl
 | .val t::ms,j,[]=>rfl
 | .val t::ms,j,d::ds=>by simp only [zci,zlb e ms j ds,e]
 | .mov t::ms,j,[]=>rfl
 | .mov t::ms,j,d::ds=>by
  simp only [zci,zlb e ms j ds];generalize zci C' j ms ds=z
  revert e
  generalize C.En=A;generalize C'.En=B;intro e;subst e;rfl
 | .ptr t wr owns::ms,j,[]=>rfl
 | .ptr t wr owns::ms,j,d::ds=>by simp only [zci,zlb e ms (j+1) ds,e]
 | .clo f n::ms,j,[]=>by simp only [zci,zlb e ms j []]
 | .clo f n::ms,j,d::ds=>by simp only [zci,zlb e ms j (d::ds)]
 | .bclo t f n::ms,j,[]=>by simp only [zci,zlb e ms (j+1) []]
 | .bclo t f n::ms,j,d::ds=>by simp only [zci,zlb e ms (j+1) (d::ds)]
theorem zabn {C C':Ctx U} (e:C.En=C'.En) (ms:List (Md U)) (ds:List (Dyn U)):zmp C ms ds=zmp C' ms ds:=by
 unfold zmp
 rw [zlb e]
theorem zs3 {C C':Ctx U} (e:C.En=C'.En):∀(ps:List (Pl U)) (j:Nat) (ds:List (Dyn U)),zhf C j ps ds=zhf C' j ps ds
 | [],j,[]=>rfl
 | [],j,_::_=>rfl
 | p::ps,j,[]=>by
  obtain⟨k,off,ty,wr,owns⟩:=p;cases wr with
  | true=>rfl
  | false=>simp only [zhf,zs3 e ps (j+1) []]
 | p::ps,j,d::ds=>by
  obtain⟨k,off,ty,wr,owns⟩:=p;cases wr with
  | true=>simp only [zhf,zs3 e ps (j+1) ds,e]
  | false=>simp only [zhf,zs3 e ps (j+1) (d::ds)]
theorem z59 {C C':Ctx U} (e:C.En=C'.En) (base:Nat) (fresh:List Nat) (l:List (Dyn U)):zb6 C base fresh l=zb6 C' base fresh l:=by
 unfold zb6
 rw [e]
theorem GOK.ctx {C C':Ctx U} {H:Fz} {w:World} (e1:C.En=C'.En) (e2:C.G=C'.G) (h:GOK C H w):GOK C' H w where
 val:=fun g av hg=>by
  rw [←e1];exact h.val g av (by rw [e2];exact hg)
 size:=fun g t xs hg=>by
  rw [←e1];exact h.size g t xs (by rw [e2];exact hg)
theorem zif.ctx {C C':Ctx U} {f:FuncId} {ct:Ct U} (e0:C.P=C'.P) (e1:C.En=C'.En) (e2:C.G=C'.G) (m:zif C f ct):zif C' f ct:=by
 refine⟨e0▸m.1,fun ds y hy E0 h0 ha μ H w us hA hS hG=> ?_⟩
 rw [←zabn e1]at ha
 rw [←e1]at hA hS
 have:=m.2 ds y hy E0 h0 ha μ H w us hA hS (hG.ctx e1.symm e2.symm)
 rw [←e0]
 refine this.mono fun e w' hb=> ?_
 cases e with
 | returned u=>
  obtain⟨rv,hf,ho,ml,H',g1,g2,g3,g4,g5,g6,g7⟩:=hb;exact⟨rv,hf,ho,ml,H',by rw [←z59 e1];exact g1,by rw [←zs3 e1];exact g2,g3,e1▸g4,g5,e1▸g6,g7⟩
 | panicked c=>exact hb
 | outgrown=>exact hb
end
section
variable {U:Uni} {C:Ctx U}
def AllF {R:Type}:(ts:List U.Ty)→Fnc U ts R→(List (Dyn U)→Option R)→Prop
 | [],f,G=>G []=f
 | t::ts,f,G=>∀x,AllF ts (f x) fun ds=>G (⟨t,x⟩::ds)
theorem z9z {R:Type}:∀(ts:List U.Ty) (f:Fnc U ts R) (G:List (Dyn U)→Option R),AllF ts f G→∀ds y,app U ts f ds=some y→G ds=some y
 | [],f,G,h,[],y,hy=>by
  have h':G []=f:=h;have hy':f=some y:=hy;rw [h',hy']
 | [],f,G,h,_::_,y,hy=>by cases hy
 | t::ts,f,G,h,[],y,hy=>by cases hy
 | t::ts,f,G,h,d::ds,y,hy=>by
  have hy':((d.as t).bind fun x=>app U ts (f x) ds)=some y:=hy;rw [oba]at hy';obtain⟨x,h1,h2⟩:=hy';rw [←zyp h1];exact z9z ts (f x) _ (h x) ds y h2
theorem zp9 {α:Type}:∀{l:List (Nat × α)} {i:Nat} {x:α},pick l i=some x→(i,x)∈l
 | [],i,x,h=>by cases h
 | (j,y)::l,i,x,h=>by
  simp only [pick,zca]at h
  by_cases e:j=i
  · subst e;simp at h;subst h;exact msa
  · simp [e]at h;exact mca _ (zp9 h)
theorem all_nil {α:Type} {P:α→Prop}:∀p∈([]:List α),P p:=fun p hp=>by simp at hp
theorem all_cons {α:Type} {P:α→Prop} {a:α} {l:List α} (h:P a) (t:∀p∈l,P p):∀p∈a::l,P p:=fun p hp=>by
 rcases mco hp with rfl|hp
 · exact h
 · exact t p hp
variable {fn:Func} {ct:Ct U} {L:Nat→Option (Cut U (PT U (ct.results++ct.outs)))}
def LOK1 (C:Ctx U) (fn:Func) (ct:Ct U) (L:Nat→Option (Cut U (PT U (ct.results++ct.outs)))) (p:Nat × Cut U (PT U (ct.results++ct.outs))):Prop:=match p.2 with
 | .plain sp ts f=>∀x y,f x=some y→∃n,zi (zp2 C fn L sp ts p.1) n x=some y
 | .rets sp ts f=>∀x y,f x=some y→∃n,zp (zp1 C fn ct L sp ts p.1) n x=some y
theorem zuq {l:List (Nat × Cut U (PT U (ct.results++ct.outs)))} (hL:L=pick l) (h:∀p∈l,LOK1 C fn ct L p):LOK C fn ct L:=by
 intro id cut hc
 rw [hL]at hc
 have:=h _ (zp9 hc)
 unfold LOK1 at this
 cases cut<;>exact this
theorem zun {l:List (Nat × Ct U)} (hO:C.O=pick l) (h:∀p∈l,zif C p.1 p.2):OOK C:=by
 intro f ct hc
 rw [hO]at hc
 exact h _ (zp9 hc)
def cur {R:Type}:(ts:List U.Ty)→(List (Dyn U)→Option R)→Fnc U ts R
 | [],G=>G []
 | t::ts,G=>fun x=>cur ts fun ds=>G (⟨t,x⟩::ds)
theorem z92 {R:Type}:∀(ts:List U.Ty) (G:List (Dyn U)→Option R),AllF ts (cur ts G) G
 | [],G=>rfl
 | t::ts,G=>fun x=>z92 ts fun ds=>G (⟨t,x⟩::ds)
theorem zaht {R:Type} {ts:List U.Ty} {f:Fnc U ts R} {G:List (Dyn U)→Option R} (h:cur ts G=f):∀ds y,app U ts f ds=some y→G ds=some y:=by
 subst h
 exact z9z ts _ G (z92 ts G)
def LE (C:Ctx U) (fn:Func) (ct:Ct U) (L:Nat→Option (Cut U (PT U (ct.results++ct.outs)))) (p:Nat × Cut U (PT U (ct.results++ct.outs))):Prop:=match p.2 with
 | .plain sp ts f=>∃r n,f=zi r n∧zp2 C fn L sp ts p.1=r
 | .rets sp ts f=>∃r n,f=zp r n∧zp1 C fn ct L sp ts p.1=r
def Ls (C:Ctx U) (fn:Func) (ct:Ct U) (L:Nat→Option (Cut U (PT U (ct.results++ct.outs)))):List (Nat × Cut U (PT U (ct.results++ct.outs)))→Prop
 | []=>True
 | p::l=>LE C fn ct L p∧Ls C fn ct L l
theorem zac0:∀{l:List (Nat × Cut U (PT U (ct.results++ct.outs)))},Ls C fn ct L l→∀p∈l,LE C fn ct L p
 | [],_,p,hp=>by simp at hp
 | q::l,h,p,hp=>by
  rcases mco hp with rfl|hp
  · exact h.1
  · exact zac0 h.2 p hp
theorem zaji {l:List (Nat × Cut U (PT U (ct.results++ct.outs)))} (hL:L=pick l) (h:Ls C fn ct L l):LOK C fn ct L:=by
 refine zuq hL fun p hp=> ?_
 have h0:=zac0 h p hp
 obtain⟨id,cut⟩:=p
 cases cut with
 | plain sp ts f=>
  obtain⟨r,n,h1,h2⟩:∃r n,f=zi r n∧zp2 C fn L sp ts id=r:=h0;exact fun x y hy=>⟨n,by rw [h2,←h1];exact hy⟩
 | rets sp ts f=>
  obtain⟨r,n,h1,h2⟩:∃r n,f=zp r n∧zp1 C fn ct L sp ts id=r:=h0;exact fun x y hy=>⟨n,by rw [h2,←h1];exact hy⟩
structure Kp (C0:Ctx U) where
 f:Nat
 t:Ct U
 m:zif C0 f t
def Osk {C0:Ctx U} (l:List (Kp C0)):List (Nat × Ct U):=l.map fun k=>(k.f,k.t)
theorem zals {C0:Ctx U} (e0:C0.P=C.P) (e1:C0.En=C.En) (e2:C0.G=C.G) {l:List (Kp C0)} (hO:C.O=pick (Osk l)):OOK C:=by
 refine zun hO fun p hp=> ?_
 obtain⟨k,_,rfl⟩:=List.mem_map.1 hp
 exact k.m.ctx e0 e1 e2
def zyt (P:Program) (p:Nat × Nat):Prop:=∀(args:List Value) v,zzx p.2 args=some v→∀w,(callFunc p.1 args.toArray).run P w= .ok (.value v) w
theorem zuf {l:List (Nat × Nat)} (hX:C.X=pick l) (h:∀p∈l,zyt C.P p):XOK C:=by
 intro f n hc
 rw [hX]at hc
 exact h _ (zp9 hc)
theorem z8h {w w':World} (h:RowKit.Below w.heap.size w w'):Wd (fun _ _=>False) w w':=⟨h.os,h.tape,h.output,h.size,fun b hb=> .inl (h.block b hb)⟩
theorem zzn {f:FuncId} {ct:Ct U} (hfn:∃fn,C.P.funcs[f]?=some fn∧fn.body.isSome=true∧(fn.name== "runtime.NumGoroutine")=false) {t:U.Ty} (hres:ct.results=[t]) (houts:ct.outs=[]) (hfresh:ct.fresh=[]) (hps:zmg ct.params=[])
 (h:∀ds y,ct.fn ds=some y→∀E0 h0,zmp C ct.params ds=some (E0,h0)→∀μ H w us,Args C.En μ H E0 us→Mem μ H w→GOK C H w→∃x,zen U (ct.results++ct.outs) y=[⟨t,x⟩]∧
  Calls C.P f us.toArray w fun e w'=>∃u,e= .returned u∧Wd (fun _ _=>False) w w'∧V C.En zi6 H (C.En.value t x) u):zif C f ct:=by
 refine⟨hfn,fun ds y hy E0 h0 ha μ H w us hA hS hG=> ?_⟩
 obtain⟨x,hx,hcalls⟩:=h ds y hy E0 h0 ha μ H w us hA hS.toMem hG
 refine hcalls.mono fun e w' hb=> ?_
 obtain⟨u,rfl,hw,hV⟩:=hb
 have hm:Mem zi6 H w':=⟨fun b o v hv=>by rw [hw.cell (zgo (hS.frz b o v hv)) (by simp)];exact hS.frz b o v hv,(fun k k' l l' b o h1=>by cases h1),(fun k l b o h1=>by cases h1),(fun k l b o h1=>by cases h1)⟩
 have hmg:(zc5 []:Mp)=zi6:=rfl
 refine⟨C.En.value t x,[],[],[],H,?_,?_,List.nodup_nil,.nil,hm,hV,H.le_refl,(fun k l hk=>by simp at hk),hw.weaken fun _ _ _ hf=>hf.elim,fun b o hb=> .inl hb,fun k l b o hk=>by simp at hk⟩
 · rw [hx,hres,hfresh];rfl
 · rw [hx,hres,hps];rfl
end
section
variable {U:Uni} {C:Ctx U}
theorem zahj {P:Program} {o:Oper} {a:Act} {w:World} {T T' e:TypeId} {x:Operand} (ho:o.op= .binOp .eql T x (.const (.slice none 0 0)) T') (hu:P.underlying T=some (.slice e)) {ad:Option Addr} {n cap:Nat} (hx:a.eval x= .slice ad n cap):
 (execOp a.eval o).run P w= .ok (.value (.bool ad.isNone)) w:=by
 have hc:a.eval (.const (.slice none 0 0))= .slice none 0 0:=rfl
 have hq:∀d,(Op.equalIn (d+1) T (.slice ad n cap) (.slice none 0 0)).run P w= .ok ad.isNone w:=by
  intro d;rw [Op.equalIn];cases ad<;>simp [Sem.run_bind,run_underlying hu]
 have hb:(binOp .eql T (.slice ad n cap) (.slice none 0 0)).run P w= .ok (.bool ad.isNone) w:=by
  simp only [binOp];simp [Op.equal,Op.maxDepth,hq 9999]
 simp [execOp,ho,hx,hc,eqGuard,hb]
theorem zaba {fn:Func} {ct:Ct U} {ds:List (Dyn U)} {E0:List (AV U)} {h0:za U} (ha:zmp C ct.params ds=some (E0,h0)) (hro:C.ro=zcn 0 ct.params) (hle:E0.length≤fn.ntmps) {μ:Mp} {H:Fz} {w:World} {us:List Value}
 (hA:Args C.En μ H E0 us) (hS:Sim C.En μ H h0 w) (hG:GOK C H w):zno C μ H w fn.ntmps (E0++List.replicate (fn.ntmps-E0.length) .dead) h0 {tmps:=us.toArray++Array.replicate (fn.ntmps-us.toArray.size) undef,defers:=[]} w:=by
 obtain⟨hargs,hnk⟩:=ztk ha
 have hpk0:∀k∈zkl 0 ct.params,∃lc,μ k=some lc∧lc.box=true:=zla hS.obj _ _ _ _ _ _ hargs (fun p hp=>zj2 hnk hp) hA
 have hAl:E0.length=us.length:=hA.length
 have hrob:∀k l,C.ro.contains k=true→μ k=some l→l.box=true:=fun k l hk hl=>by
  rw [hro]at hk;obtain⟨l0,g1,g2⟩:=hpk0 k (zl1 _ _ _ (by simpa using hk));rw [hl]at g1;cases g1;exact g2
 have hlen:(E0++List.replicate (fn.ntmps-E0.length) (.dead:AV U)).length=fn.ntmps:=by simp;omega
 have hsize:(us.toArray++Array.replicate (fn.ntmps-us.toArray.size) undef).size=fn.ntmps:=by simp;omega
 refine⟨μ,H,{env:=fun t=> ?_,size:=by rw [hlen,hsize],sim:=hS,glob:=hG,defers:=rfl},.first hrob,hlen⟩
 by_cases ht:t<E0.length
 · have e1:(E0++List.replicate (fn.ntmps-E0.length) (.dead:AV U)).getD t .dead=E0[t]:=by
    rw [gda,List.getElem?_append_left ht,lga ht];rfl
   have htu:t<us.length:=by omega
   have e2:({tmps:=us.toArray++Array.replicate (fn.ntmps-us.toArray.size) undef,defers:=[]}:Act).eval (.tmp t)=us[t]:=by
    simp only [Act.eval,agd];rw [Array.getElem?_append_left (by simpa using htu)];simp [htu]
   rw [e1,e2];exact hA.get t _ _ (lga ht) (lga htu)
 · have e1:(E0++List.replicate (fn.ntmps-E0.length) (.dead:AV U)).getD t .dead= .dead:=by
    rw [gda,List.getElem?_append_right (by omega),List.getElem?_replicate];split<;>rfl
   rw [e1];exact .dead _
theorem zn6 (L:CLaws C) (O:OOK C) (X:XOK C) {f:FuncId} {fn:Func} {ct:Ct U} {Lp:Nat→Option (Cut U (PT U (ct.results++ct.outs)))} (hf:C.P.funcs[f]?=some fn) (hnm:(fn.name== "runtime.NumGoroutine")=false) (hL:LOK C fn ct Lp) (hok:∀y,z2e C ct y=true)
 {A X1 Y:Code} {id:Nat} {o1 o2:Oper} {T T' e:TypeId} (hbody:fn.body=some (.seq A (.seq (.seq (.region id #[o1,o2] false) (.cond (.tmp 4) X1 .skip)) Y))) (ho1:o1.op= .move (.tmp 0)) (hd1:o1.dst=some 3) (hg1:o1.guard=none)
 (ho2:o2.op= .binOp .eql T (.tmp 3) (.const (.slice none 0 0)) T') (hd2:o2.dst=some 4) (hg2:o2.guard=none) (hu:C.P.underlying T=some (.slice e)) (hn:fn.ntmps=8) (hj:C.joins=fun _=>none)
 (hids:zeh (.seq A (.seq (.seq (.region id #[o1,o2] false) (.cond (.tmp 4) X1 .skip)) Y))=[]) (hro:C.ro=[]) (hpk:C.pk=[]) {t:U.Ty} (hps:ct.params=[.val (C.En.sl t)])
 (hA:∀xs:List (U.den t),ziq C Lp A ({norm:=fun E h=>some (E,h),exit:=fun _ _ _=>none,ret:=fun _ _=>none,res:=fun _=>none}:Kont U (PT U (ct.results++ct.outs)) (List (AV U) × za U)) [.lst t xs,.dead,.dead,.dead,.dead,.dead,.dead,.dead] []=some ([.lst t xs,.dead,.sc (.slice none 0 0),.dead,.dead,.dead,.dead,.dead],[]))
 (hY:∀ds y,ct.fn ds=some y→∃xs:List (U.den t),ds=[⟨C.En.sl t,C.En.toSl t xs⟩]∧∀b,(b=true→xs=[])→
  ziq C Lp (.cond (.tmp 4) X1 .skip) {norm:=ziq C Lp Y ({norm:=zn9 C fn ct,exit:=fun _ _ _=>none,ret:=zn9 C fn ct,res:=some}:Kont U (PT U (ct.results++ct.outs)) (PT U (ct.results++ct.outs))),exit:=fun _ _ _=>none,ret:=zn9 C fn ct,res:=some} [.lst t xs,.dead,.sc (.slice none 0 0),.lst t xs,.sc (.bool b),.dead,.dead,.dead] []=some y):zif C f ct:=by
 refine⟨⟨fn,hf,by rw [hbody];rfl,hnm⟩,fun ds y hy E0 h0 ha μ H w us hA' hS hG=> ?_⟩
 obtain⟨xs,hds,hYb⟩:=hY ds y hy
 have hval:C.En.value (C.En.sl t) (C.En.toSl t xs)= .lst t xs:=by simp [Enc.value,L.e.slAgg,L.e.slEnc]
 obtain⟨hargs,hnk0⟩:=ztk ha
 have hpk0:∀k∈zkl 0 ct.params,∃lc,μ k=some lc∧lc.box=true:=zla hS.obj _ _ _ _ _ _ hargs (fun p hp=>zj2 hnk0 hp) hA'
 have hE:E0=[.lst t xs]∧h0=[]:=by
  rw [hps,hds]at hargs;simp only [zci,oba]at hargs;obtain⟨x,h1,r,h2,h3⟩:=hargs;have:=zn0 h1;subst this;cases h2;cases h3;exact⟨by simp [hval],rfl⟩
 have hro':C.ro=zcn 0 ct.params:=by rw [hro,hps];rfl
 have hpk':∀k l,μ k=some l→l.box=true→k∈C.pk:=fun k l hk hb=>by
  obtain⟨ob,g1,g2⟩:=hS.obj k l hk;rw [hE.2]at g1;cases g1
 have hh:=zaba (fn:=fn) ha hro' (by rw [hE.1,hn];simp) hA' hS hG
 rw [hE.1,hE.2]at hh
 have hlist:([.lst t xs]++List.replicate (fn.ntmps-([.lst t xs]:List (AV U)).length) .dead:List (AV U))=[.lst t xs,.dead,.dead,.dead,.dead,.dead,.dead,.dead]:=by rw [hn];rfl
 rw [hlist]at hh
 have hnoloop:∀{c:Code},zeh c=[]→∀i b,zkp i b c→zhi fn i=some b:=fun {c} hc i b hb=>by
  have:=ziu hb;rw [hc]at this;simp at this
 have hlA:zeh A=[]:=by simp [zeh]at hids;exact hids.1
 have hlC:zeh (.cond (.tmp 4) X1 .skip)=[]:=by simp [zeh]at hids⊢;exact hids.2.1
 have hlY:zeh Y=[]:=by simp [zeh]at hids;exact hids.2.2
 have fin:∀E h a w',zn9 C fn ct E h=some y→zno C μ H w fn.ntmps E h a w'→a.defers=[]∧∃v,(results fn a.tmps).run C.P w'= .ok v w'∧z3l C ct ct.fresh μ H w y v w':=by
  intro E h a w' hfn hh;obtain⟨μ1,H1,s1,S1,_⟩:=hh;exact⟨s1.defers,zzq L hpk0 hro' hok s1 S1 hfn⟩
 have snd:=fun c=>(z63 (μs:=μ) (Hs:=H) (ws:=w) L O X hL hpk' c).1
 refine calls_of_wp hf hbody (wp_seq ?_)
 refine snd A (hnoloop hlA) _ _ _ _ (hA xs) _ w _ hh ⟨fun E1 h1 a1 w1 hk hh1=> ?_,fun i E' h' a' w' hk _=>by simp at hk,fun E' h' a' w' hk _=>by simp at hk,fun r0 a' w' hk _=>by simp at hk⟩
 cases hk
 show(Code.seq _ Y).wp _ _ _ _
 refine wp_seq (wp_seq (wp_region_list ?_))
 obtain⟨μ1,H1,s1,S1,hl1⟩:=hh1
 have hgood:∃v h',some (v,h')=some ((.lst t xs:AV U),([]:za U))∧zlm C [.lst t xs,.dead,.sc (.slice none 0 0),.dead,.dead,.dead,.dead,.dead] [] o1 v h':=by
  refine zwl L O X (k:=fun v h=>some (v,h)) ?_ ?_
  · unfold z2i;rw [ho1];rfl
  · unfold zlp;rw [ho1]
 obtain⟨v1,h1',e1,g1⟩:=hgood
 cases e1
 rw [show(#[o1,o2]:Array Oper).toList=[o1,o2]from rfl]
 rw [wpList,if_pos (by simp [Region.wanted,hg1])]
 refine .inl (s1.go L.e S1 g1 fun μ2 H2 a2 w2 s2 S2=> ?_)
 rw [hd1]at s2
 rw [wpList,if_pos (by simp [Region.wanted,hg2])]
 have hV:=s2.env 3
 have hE3:(zd0 [.lst t xs,.dead,.sc (.slice none 0 0),.dead,.dead,.dead,.dead,.dead] (some 3) (.lst t xs):List (AV U)).getD 3 .dead= .lst t xs:=rfl
 rw [hE3]at hV
 generalize hq:a2.eval (.tmp 3)=u at hV
 cases hV with
 | lst hnl hcap had g2 g3 g4=>
  rename_i ad n cap b o';have hb:ad.isNone=true→xs=[]:=fun hN=>by
   refine Classical.byContradiction fun hne=> ?_;rw [had hne]at hN;cases hN
  left;refine zm5 (zahj ho2 hu hq) ?_;have A2:=After.stay (C:=C) (h:=([]:za U)) s2.sim.toMem;have s3:=s2.after L.e A2 (d:=o2.dst) (cv:= .bool ad.isNone) (v:= .sc (.bool ad.isNone)) (.sc _);have S3:=S2;rw [hd2]at s3⊢;rw [wpList];have hlast:(zd0 (zd0 [.lst t xs,.dead,.sc (.slice none 0 0),.dead,.dead,.dead,.dead,.dead] (some 3) (.lst t xs)) (some 4) (.sc (.bool ad.isNone)):List (AV U))=[.lst t xs,.dead,.sc (.slice none 0 0),.lst t xs,.sc (.bool ad.isNone),.dead,.dead,.dead]:=rfl;rw [hlast]at s3;refine snd _ (hnoloop hlC) _ _ _ _ (hYb ad.isNone hb) _ w2 _ ⟨μ2,H2,s3,S3,by rw [hn];rfl⟩ ?_;refine⟨fun E' h' a' w' hk hh'=> ?_,fun i E' h' a' w' hk _=>by simp at hk,fun E' h' a' w' hk hh'=>fin E' h' a' w' hk hh',fun r0 a' w' hk hf0=> ?_⟩
  · refine snd Y (hnoloop hlY) _ _ _ _ hk _ w' _ hh' ⟨fun E h a w' hk hh=>fin E h a w' hk hh,fun i E h a w' hk _=>by simp at hk,fun E h a w' hk hh=>fin E h a w' hk hh,fun r0 a' w' hk hf0=> ?_⟩;cases hk;obtain⟨E,h,g1,g2⟩:=hf0;exact fin E h a' w' g1 g2
  · cases hk;obtain⟨E,h,g1,g2⟩:=hf0;exact fin E h a' w' g1 g2
end
end Go.Amx
