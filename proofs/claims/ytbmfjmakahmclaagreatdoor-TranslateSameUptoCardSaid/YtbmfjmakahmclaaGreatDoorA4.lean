/- A machine that evaluates the program's form by typed values, and the proof that it is sound: part 4. -/
import Derived.Lib.LaidTab
import Derived.Laws.Externs
import Derived.Sort.Grow
import Derived.WalkSmall
import Derived.ChangeReads
import Derived.ChangeSame
import Derived.Below
import Derived.Lib.LaidU8
import Derived.ChangeShapes
import Derived.OpenShut
import Derived.Test.YtbmfjmakahmclaaGreatDoorA3
namespace Go.Amx
set_option linter.unusedVariables false
set_option linter.unusedSimpArgs false
section
variable {U:Uni} {C:Ctx U}
def Sp {α:Type} (rd:List (AV U)→Option (α × List (AV U))) (en:α→List (AV U)):Prop:=∀l x r,rd l=some (x,r)→∃p,l=p++r∧F2 Ref p (en x)
theorem Sp.step {α β:Type} {rd:List (AV U)→Option (α × List (AV U))} {en:α→List (AV U)} (s:Sp rd en) {l:List (AV U)} {f:α × List (AV U)→Option β} {q:β} (h:(rd l).bind f=some q):
 ∃y r p,l=p++r∧F2 Ref p (en y)∧f (y,r)=some q:=by
 rw [oba]at h
 obtain⟨⟨y,r⟩,h1,h2⟩:=h
 obtain⟨p,h3,h4⟩:=s l y r h1
 exact⟨y,r,p,h3,h4,h2⟩
theorem F2.refl_ref:∀(l:List (AV U)),F2 Ref l l
 | []=> .nil
 | c::l=> .cons (.inl rfl) (F2.refl_ref l)
def zab8:AV U→Bool
 | .sc _=>true
 | _=>false
theorem z8o {c:AV U} (h:zab8 c=true):∃v,c= .sc v:=by
 cases c<;>first|exact⟨_,rfl⟩|cases h
def fzc:AV U→Bool
 | .sc v=>v.oneCell'
 | .lst _ _=>true
 | _=>false
theorem zae0 {c:AV U} (h:fzc c=true):Fzc c:=by
 cases c<;>first|exact .inl ⟨_,rfl,h⟩|exact .inr ⟨_,_,rfl⟩|cases h
theorem z91 {P:AV U→Bool} {l:List (AV U)} (h:l.all P=true) {c:AV U} (hc:c∈l):P c=true:=lat h c hc
def goOk (C:Ctx U) (p:TypeId × U.Ty):Bool:=(match zbh C p.1 with|some n=>Nat.beq n (C.En.sz p.2)|none=>false)&&(match zec C p.1 with|some b=>b==C.En.agg p.2|none=>false)
theorem zafb (e:ELaws C.En) {l:List (TypeId × U.Ty)} (hl:C.En.ofGo=pick l) (h:l.all (goOk C)=true):CLaws C where
 e:=e
 go:=fun T t ht=>by
  rw [hl]at ht;have h1:=lat h _ (zp9 ht);unfold goOk at h1;obtain⟨h2,h3⟩:=(baa _ _).mp h1;simp only at h2 h3;constructor
  · split at h2
    · rename_i n hn;rw [hn,Nat.eq_of_beq_eq_true h2]
    · cases h2
  · split at h3
    · rename_i b hb;rw [hb]
      congr 1
      exact eq_of_beq h3
    · cases h3
theorem zais {μ:Mp} {H:Fz} {w:World} (hG:GOK C H w) (hm:Mem μ H w) {g:Nat} {name:String} {t:U.Ty} {xs:List (U.den t)} {k:IntKind} {zs:List Int} (hg:C.G g=some (.rarr t xs)) (hn:C.P.globalNamed name=some g)
 (henc:∀(i:Nat) x,xs[i]?=some x→∃z,zs[i]?=some z∧C.En.enc t x=[.sc (.int k z)]) (hl:zs.length=xs.length) (hsz:C.En.sz t=1):Lib.TabIs C.P w name k zs:=by
 obtain⟨cs,T,fz,h1,h2⟩:=hG.size g t xs hg
 have hV:=(hG.val g _ hg).2 μ
 rw [hsz,Nat.mul_one]at h2
 have hcs:cs=(zs.map fun z=>Value.int k z).toArray:=by
  apply Array.ext
  · simp [h2,hl]
  · intro i hi1 hi2;have hix:i<xs.length:=by omega
    generalize hq:(Value.pointer (some ⟨g,0,none⟩))=u at hV;cases hV with
    | rarr gg g1 g2=>
     rename_i b o;injection hq with hq;injection hq with hq;injection hq with e1 e2;subst e1 e2;obtain⟨z,hz,he⟩:=henc i xs[i] (lga hix);have c0:(C.En.enc t xs[i])[0]?=some (.sc (.int k z)):=by rw [he];rfl
     have hH:=g1 i _ (lga hix) 0 _ c0;have hv:=(g2 i _ (lga hix) 0 _ c0).int;rw [hv,hsz]at hH;have hc:=hm.frz _ _ _ hH;simp only [Nat.mul_one,Nat.add_zero,Nat.zero_add]at hc;unfold World.cell? at hc;rw [h1]at hc;simp only at hc;have hzi:zs[i]?=some z:=hz;have:cs[i]?=some (.int k z):=hc;rw [Array.getElem?_eq_getElem hi1]at this;rw [Option.some.inj this];have hzl:i<zs.length:=by omega
     rw [lga hzl]at hzi;simp [Option.some.inj hzi]
 unfold Lib.TabIs World.var?
 rw [hn]
 simp only [obz,h1]
 rw [hcs]
theorem zaf9 (w:World) (k:Nat) (os:Array Obj):Wd (fun _ _=>False) w (Sort.grow (w.drewN k) os):=by
 refine⟨rfl,rfl,rfl,by simp [Sort.grow,World.drewN],fun b hb=> .inl ?_⟩
 simp [Sort.grow,World.drewN,Array.getElem?_append,hb]
theorem zyr {R:Type} {t:U.Ty} {f:U.den t→Option R} {ds:List (Dyn U)} {y:R} (h:app U (R:=R) [t] f ds=some y):∃x,ds=[⟨t,x⟩]∧f x=some y:=by
 cases ds with
 | nil=>cases h
 | cons d ds=>
  have h':((d.as t).bind fun x=>app U (R:=R) [] (f x) ds)=some y:=h;rw [oba]at h';obtain⟨x,h1,h2⟩:=h';cases ds with
  | nil=>exact⟨x,by rw [zyp h1],h2⟩
  | cons=>cases h2
theorem app2 {R:Type} {t t':U.Ty} {f:U.den t→U.den t'→Option R} {ds:List (Dyn U)} {y:R} (h:app U (R:=R) [t,t'] f ds=some y):∃x x',ds=[⟨t,x⟩,⟨t',x'⟩]∧f x x'=some y:=by
 cases ds with
 | nil=>cases h
 | cons d ds=>
  have h':((d.as t).bind fun x=>app U (R:=R) [t'] (f x) ds)=some y:=h;rw [oba]at h';obtain⟨x,h1,h2⟩:=h';obtain⟨x',h3,h4⟩:=zyr h2;exact⟨x,x',by rw [h3,zyp h1],h4⟩
end
theorem z3q {P:Program} (nm:String) (x y c:Int) (hc:¬c.toNat>1) (w:World):(Extern.MathBitsCarry.three nm #[.int .u64 x,.int .u64 y,.int .u64 c]).run P w= .ok (x.toNat,y.toNat,c.toNat) w:=by
 have h:Extern.MathBitsCarry.three nm #[.int .u64 x,.int .u64 y,.int .u64 c]=(do
  let c':=(←asInt (.int .u64 c)).toNat
  if c'>1 then unsupported (.noEntry ("extern/math/bits." ++nm++ ": a carry that is neither 0 nor 1"))
  pure ((←asInt (.int .u64 x)).toNat,(←asInt (.int .u64 y)).toNat,c')):=rfl
 rw [h]
 simp [asInt,asIntOf]
 omega
def zrp:Array Value→Sem Value:=fun args=>do
 let(x,y,b)←Extern.MathBitsCarry.three "Sub64" args
 pure (Extern.MathBitsCarry.pair ((x+Extern.MathBitsCarry.m64-y-b)%Extern.MathBitsCarry.m64) (if x<y+b then 1 else 0))
theorem zad1 {P:Program} (x y c:Int) (hc:¬c.toNat>1) (w:World):(Go.add64Entry #[.int .u64 x,.int .u64 y,.int .u64 c]).run P w= .ok (.tuple #[.int .u64 ((((x.toNat+y.toNat+c.toNat)%2^64:Nat)):Int),.int .u64 ((((x.toNat+y.toNat+c.toNat)/2^64:Nat)):Int)]) w:=by
 unfold add64Entry
 rw [Sem.run_bind,z3q _ x y c hc]
 rfl
theorem zab2 {P:Program} (x y c:Int) (hc:¬c.toNat>1) (w:World):(zrp #[.int .u64 x,.int .u64 y,.int .u64 c]).run P w= .ok (.tuple #[.int .u64 ((((x.toNat+2^64-y.toNat-c.toNat)%2^64:Nat)):Int),.int .u64 ((((if x.toNat<y.toNat+c.toNat then 1 else 0:Nat))):Int)]) w:=by
 unfold zrp
 rw [Sem.run_bind,z3q _ x y c hc]
 rfl
theorem zabt {P:Program} {f:FuncId} {fn:Func} (hf:P.funcs[f]?=some fn) (hname:(fn.name== "runtime.NumGoroutine")=false) (hb:fn.body.isNone=true) (hn:Extern.findNext fn=none) (he:Extern.find fn=some add64Entry):zyt P (f,0):=by
 intro args v h w
 match args,h with
 | [.int .u64 x,.int .u64 y,.int .u64 c],h=>
  simp only [zzx]at h;split at h
  · cases h
  · rename_i hc;cases h;rw [run_callFunc_extern hf hname hb hn he];show((add64Entry #[.int .u64 x,.int .u64 y,.int .u64 c]).run P w).andThen _=_;rw [zad1 x y c hc];rfl
theorem zabs {P:Program} {f:FuncId} {fn:Func} (hf:P.funcs[f]?=some fn) (hname:(fn.name== "runtime.NumGoroutine")=false) (hb:fn.body.isNone=true) (hn:Extern.findNext fn=none) (he:Extern.find fn=some zrp):zyt P (f,1):=by
 intro args v h w
 match args,h with
 | [.int .u64 x,.int .u64 y,.int .u64 c],h=>
  simp only [zzx]at h;split at h
  · cases h
  · rename_i hc;cases h;rw [run_callFunc_extern hf hname hb hn he];show((zrp #[.int .u64 x,.int .u64 y,.int .u64 c]).run P w).andThen _=_;rw [zab2 x y c hc];rfl
theorem zaf4 {P:Program} {f:FuncId} {fn:Func} (hf:P.funcs[f]?=some fn) (hname:(fn.name== "runtime.NumGoroutine")=false) (hb:fn.body.isNone=true) (hn:Extern.findNext fn=none) (he:Extern.find fn=some Extern.BytealgCompare.compare):zyt P (f,2):=by
 intro args v h w
 match args,h with
 | [.string x,.string y],h=>
  cases h;rw [run_callFunc_extern hf hname hb hn he];rfl
open Go.RowKit
structure Bulk (B:{H:Type}→DataW H→Nat):Prop where
 str:∀{H:Type} (l:List UInt8),l.length≤B (DataW.lit (H:=H) (.string l))
 len:∀{H:Type} (es sp:List (DataW H)),es.length≤B (.slice es sp)
 elem:∀{H:Type} (es sp:List (DataW H)) d,d∈es→B d≤B (.slice es sp)
 part:∀{H:Type} (es:List (DataW H)) d,d∈es→B d≤B (.agg es)
section
variable {U:Uni}
inductive Wfc (En:Enc U) (n:Nat):AV U→Prop
 | int {k z}:k.min≤z→z≤k.max→Wfc En n (.sc (.int k z))
 | bool {b}:Wfc En n (.sc (.bool b))
 | str {s:ByteArray}:s.size≤n→Wfc En n (.sc (.string s))
 | lst {t xs}:xs.length≤n→(∀x∈xs,∀c∈En.enc t x,Wfc En n c)→Wfc En n (.lst t xs)
def Wft (En:Enc U) (n:Nat) (t:U.Ty) (x:U.den t):Prop:=∀c∈En.enc t x,Wfc En n c
variable {C:Ctx U}
def zl0 (w:World):Fz:=fun b o=>w.cell? ⟨b,o,none⟩
def zvh (w:World) (b:Nat):Bool:=decide (b<w.heap.size)
def zh1 (C:Ctx U) (T:TypeId) (t:U.Ty):Prop:=
 ∀(B:{H:Type}→DataW H→Nat),Bulk (fun {H}=>B (H:=H))→∀{H:Type} (enc:TypeId × Value→H) (w:World) (held:Bool) (fuel:Nat) (cs:List Value) (d:DataW H) (ps:List MemPlace),DataW.trod enc C.P w 0 (fun _=>true) held fuel T cs=some (d,ps)→
  (∃x:U.den t,cs.length=C.En.sz t∧(∀(j:Nat) c u,(C.En.enc t x)[j]?=some c→cs[j]?=some u→V C.En zi6 (zl0 w) c u)∧∀n,B d≤n→Wft C.En n t x)∧
  ∀w',Below w.heap.size w w'→DataW.trod enc C.P w' 0 (zvh w) held fuel T cs=some (d,ps)
theorem zai3 {T:TypeId} {t:U.Ty} {k:IntKind} (hu:C.P.underlying T=some (.int k)) (hsz:C.En.sz t=1) (he:∀n:Int,∃x:U.den t,C.En.enc t x=[.sc (.int k n)]):zh1 C T t:=by
 intro B hB H enc w held fuel cs d ps h
 obtain⟨n,rfl,hx,hw⟩:=DataW.trod_int hu h
 cases hx
 obtain⟨x,hx⟩:=he n
 refine⟨⟨x,by rw [hsz];rfl,fun j c u hj hu=> ?_,fun m hm c hc=> ?_⟩,fun w' hb=> ?_⟩
 · rw [hx]at hj;cases j with
   | zero=>cases hj;cases hu;exact .sc _
   | succ j=>simp at hj
 · rw [hx]at hc;simp at hc;subst hc;simp only [Lit.wf,baa,decide_eq_true_eq]at hw;exact .int hw.1 hw.2
 · cases fuel with
   | zero=>simp [DataW.trod]at h
   | succ fuel=>
    unfold DataW.trod;rw [hu];simp [hw]
theorem zagx {T:TypeId} {t:U.Ty} (hu:C.P.underlying T=some .bool) (hsz:C.En.sz t=1) (he:∀b:Bool,∃x:U.den t,C.En.enc t x=[.sc (.bool b)]):zh1 C T t:=by
 intro B hB H enc w held fuel cs d ps h
 obtain⟨n,rfl,hx⟩:=DataW.trod_bool hu h
 cases hx
 obtain⟨x,hx⟩:=he n
 refine⟨⟨x,by rw [hsz];rfl,fun j c u hj hu=> ?_,fun m hm c hc=> ?_⟩,fun w' hb=> ?_⟩
 · rw [hx]at hj;cases j with
   | zero=>cases hj;cases hu;exact .sc _
   | succ j=>simp at hj
 · rw [hx]at hc;simp at hc;subst hc;exact .bool
 · cases fuel with
   | zero=>simp [DataW.trod]at h
   | succ fuel=>
    unfold DataW.trod;rw [hu]
theorem zai2 {T:TypeId} {t:U.Ty} (hu:C.P.underlying T=some .string) (hsz:C.En.sz t=1) (he:∀s:ByteArray,∃x:U.den t,C.En.enc t x=[.sc (.string s)]):zh1 C T t:=by
 intro B hB H enc w held fuel cs d ps h
 obtain⟨s,rfl,hx,hs⟩:=DataW.trod_string hu h
 cases hx
 obtain⟨x,hx⟩:=he s
 refine⟨⟨x,by rw [hsz];rfl,fun j c u hj hu=> ?_,fun m hm c hc=> ?_⟩,fun w' hb=> ?_⟩
 · rw [hx]at hj;cases j with
   | zero=>cases hj;cases hu;exact .sc _
   | succ j=>simp at hj
 · rw [hx]at hc;simp at hc;subst hc;have:=hB.str (H:=H) s.data.toList;have hl:s.data.toList.length=s.size:=Array.length_toList;exact .str (by omega)
 · cases fuel with
   | zero=>simp [DataW.trod]at h
   | succ fuel=>
    unfold DataW.trod;rw [hu];exact if_pos hs
theorem zsy {w:World} {a:Addr} {v:Value} (h:w.cell? a=some v):a.spot=none:=by
 unfold World.cell? at h
 split at h
 · split at h
   · cases h
   · rename_i hs;cases hq:a.spot with
     | none=>rfl
     | some x=>rw [hq]at hs;simp at hs
 · cases h
theorem cells?_at {w:World} {a:Addr} {n:Nat} {cs:List Value} (h:w.cells? 0 a n=some cs):cs.length=n∧∀(j:Nat) v,cs[j]?=some v→w.cell? (a.add j)=some v:=by
 unfold World.cells? at h
 rw [if_pos (Nat.zero_le _)]at h
 have hl:cs.length=n:=by
  have:=Lib.mapM_length h;simpa using this
 refine⟨hl,fun j v hj=> ?_⟩
 have hjn:j<n:=by rw [←hl];exact(gea hj).1
 obtain⟨b,h1,h2⟩:=Lib.mapM_at h j j (by simp [hjn])
 rw [hj]at h1
 cases h1
 exact h2
theorem cells?_below {w w':World} (hb:Below w.heap.size w w') {a:Addr} {n:Nat} {cs:List Value} (h:w.cells? 0 a n=some cs):w'.cells? 0 a n=some cs:=by
 unfold World.cells? at h⊢
 rw [if_pos (Nat.zero_le _)]at h⊢
 refine Go.mapM_carry h fun i v _ _ hv=> ?_
 rw [hb.cell (World.block_lt_of_cell? w _ hv)]
 exact hv
theorem zp5 (L:ELaws C.En) {T e:TypeId} {t:U.Ty} (hu:C.P.underlying T=some (.slice e)) (hce:C.P.cellsOf e=C.En.sz t) (hr:zh1 C e t):zh1 C T (C.En.sl t):=by
 intro B hB H enc w held fuel cs d ps h
 have hsz:C.En.sz (C.En.sl t)=1:=L.one _ (L.slAgg t)
 have hpos:=L.pos t
 have h':=h
 cases fuel with
 | zero=>simp [DataW.trod]at h
 | succ fuel=>
  rcases DataW.trod_slice hu h with⟨rfl,hx⟩|⟨a,len,cap,elems,rest,n,hf,rfl,hx,hb0,hl,hm,hlen,hel,hsp,hns⟩
  · cases hx;refine⟨⟨C.En.toSl t [],by rw [hsz];rfl,fun j c u hj hu=> ?_,fun m _ c hc=> ?_⟩,fun w' hb=> ?_⟩
    · rw [L.slEnc]at hj;cases j with
      | zero=>cases hj;cases hu;exact .lst (b:=0) (o:=0) rfl (Nat.le_refl _) (fun hh=>absurd rfl hh) (fun _ _=>undef) (fun i x hx=>by simp at hx) (fun i x hx=>by simp at hx)
      | succ j=>simp at hj
    · rw [L.slEnc]at hc;simp at hc;subst hc;exact .lst (Nat.zero_le _) (fun x hx=>by simp at hx)
    · unfold DataW.trod;rw [hu];rfl
  · cases hx;cases hf;have each:∀i,i<len→∃y cs',elems[i]?=some y∧w.cells? 0 (a.add (i*C.En.sz t)) (C.En.sz t)=some cs'∧DataW.trod enc C.P w 0 (fun _=>true) held fuel e cs'=some y:=by
     intro i hi;have:=hel i hi;rw [hce,lga (by omega),oba]at this;obtain⟨cs',h1,h2⟩:=this;exact⟨_,cs',lga (by omega),h1,h2⟩
    have eachx:∀i,i<len→∃x:U.den t,(∀(j:Nat) c,(C.En.enc t x)[j]?=some c→∃u,w.cell? ((a.add (i*C.En.sz t)).add j)=some u∧V C.En zi6 (zl0 w) c u)∧∀y,elems[i]?=some y→∀n,B y.1≤n→Wft C.En n t x:=by
     intro i hi;obtain⟨y,cs',h1,h2,h3⟩:=each i hi;obtain⟨⟨x,g1,g2,g3⟩,_⟩:=hr B hB enc w held fuel cs' y.1 y.2 h3;obtain⟨g4,g5⟩:=cells?_at h2;refine⟨x,fun j c hj=> ?_,fun y' hy' n hn=> ?_⟩
     · have hjl:j<cs'.length:=by rw [g1,←L.sz t x];exact(gea hj).1
       have:=lga hjl;exact⟨_,g5 j _ this,g2 j c _ hj this⟩
     · rw [h1]at hy';cases hy';exact g3 n hn
    obtain⟨xs,hxl,hxs⟩:∃xs:List (U.den t),xs.length=len∧∀i x,xs[i]?=some x→(∀(j:Nat) c,(C.En.enc t x)[j]?=some c→∃u,w.cell? ((a.add (i*C.En.sz t)).add j)=some u∧V C.En zi6 (zl0 w) c u)∧∀y,elems[i]?=some y→∀n,B y.1≤n→Wft C.En n t x:=by
     refine⟨(List.range len).pmap (fun i hi=>(eachx i hi).choose) (fun i hi=>by simpa using hi),by simp,fun i x hx=> ?_⟩;have hi:i<len:=by
      have:=(gea hx).1;simpa using this
     have:x=(eachx i hi).choose:=by
      obtain⟨_,hh⟩:=gea hx;rw [←hh];simp
     rw [this];exact(eachx i hi).choose_spec
    have hcell:∀i x,xs[i]?=some x→∀(j:Nat) c,(C.En.enc t x)[j]?=some c→∃u,w.cell? ⟨a.block,a.off+(i*C.En.sz t+j),none⟩=some u∧V C.En zi6 (zl0 w) c u:=by
     intro i x hx j c hj;obtain⟨u,h1,h2⟩:=(hxs i x hx).1 j c hj;refine⟨u,?_,h2⟩;rw [←h1]
     congr 1
     have hs:a.spot=none∨0<i*C.En.sz t+j:=by
      by_cases hz:0<i*C.En.sz t+j
      · exact .inr hz
      · left;have e1:i*C.En.sz t=0:=by omega
        have e2:j=0:=by omega
        rw [e1,e2]at h1;have:=zsy h1;simpa [Addr.add]using this
     simp only [Addr.add];obtain⟨ab,ao,asp⟩:=a;rcases hs with hs|hs
     · simp only at hs;subst hs;split<;>split<;>simp_all<;>omega
     · split<;>split<;>simp_all<;>omega
    refine⟨⟨C.En.toSl t xs,by rw [hsz];rfl,fun j c u hj hu=> ?_,fun m hm c hc=> ?_⟩,fun w' hb=> ?_⟩
    · rw [L.slEnc]at hj;cases j with
      | succ j=>simp at hj
      | zero=>
       cases hj;cases hu;refine .lst (b:=a.block) (o:=a.off) hxl.symm hl (fun hne=> ?_) (fun i j=>(w.cell? ⟨a.block,a.off+(i*C.En.sz t+j),none⟩).getD undef) (fun i x hx j c hj=> ?_) (fun i x hx j c hj=> ?_)
       · have h0:0<xs.length:=List.length_pos_iff.2 hne;have hc0:0<(C.En.enc t xs[0]).length:=by rw [L.sz];exact hpos
         obtain⟨u,h1,_⟩:=(hxs 0 _ (lga h0)).1 0 _ (lga hc0);have hsp:=zsy h1;rw [Nat.zero_mul]at hsp;have:a.spot=none:=by simpa [Addr.add]using hsp
         obtain⟨ab,ao,asp⟩:=a;simp only at this;subst this;rfl
       · obtain⟨u,h1,_⟩:=hcell i x hx j c hj;show w.cell? _=_;rw [h1];rfl
       · obtain⟨u,h1,h2⟩:=hcell i x hx j c hj;rw [h1];exact h2
    · rw [L.slEnc]at hc;simp at hc;subst hc;have h1:=hB.len (elems.map (·.1)) (rest.map (·.1));refine .lst ?_ fun x hx c hc=> ?_
      · simp only [List.length_map]at h1;omega
      · obtain⟨i,hi⟩:=List.getElem?_of_mem hx;have hil:i<elems.length:=by rw [hlen,←hxl];exact(gea hi).1
        have hy:=lga hil;have h2:=hB.elem (elems.map (·.1)) (rest.map (·.1)) elems[i].1 (List.mem_map.2 ⟨elems[i],List.getElem_mem hil,rfl⟩);exact(hxs i x hi).2 _ hy m (Nat.le_trans h2 hm) c hc
    ·
     have carry:∀i y,i<cap→(w.cells? 0 (a.add (i*C.P.cellsOf e)) (C.P.cellsOf e)).bind (DataW.trod enc C.P w 0 (fun _=>true) held fuel e)=some y→(w'.cells? 0 (a.add (i*C.P.cellsOf e)) (C.P.cellsOf e)).bind (DataW.trod enc C.P w' 0 (zvh w) held fuel e)=some y:=by
      intro i y _ hy;rw [oba]at hy⊢;obtain⟨cs',h1,h2⟩:=hy;exact⟨cs',cells?_below hb h1,(hr B hB enc w held fuel cs' y.1 y.2 h2).2 w' hb⟩
     unfold DataW.trod at h⊢;rw [hu]at h⊢;simp only at h⊢;rw [if_pos ⟨Nat.zero_le _,hl,hm⟩]at h⊢;rw [oba]at h⊢;obtain⟨es,h1,h2⟩:=h;refine⟨es,Go.mapM_carry h1 fun i y hi _ hy=>carry i y (by simp at hi;omega) hy,?_⟩;rw [oma]at h2⊢;obtain⟨rs,h3,h4⟩:=h2;refine⟨rs,?_,h4⟩;rw [if_pos trivial]at h3
     by_cases hlt:a.block<w.heap.size
     · rw [if_pos (by simp [zvh,hlt])];exact Go.mapM_carry h3 fun i y hi _ hy=>carry (len+i) y (by simp at hi;omega) hy
     · rw [if_neg (by simp [zvh,hlt])];have hcap:cap=len:=by
        refine Classical.byContradiction fun hne=> ?_;have hpos':0<cap-len:=by omega
        obtain⟨y,_,hy⟩:=Lib.mapM_at h3 0 0 (by simp [hpos']);rw [oba]at hy;obtain⟨cs',g1,_⟩:=hy;obtain⟨g2,g3⟩:=cells?_at g1;rw [hce]at g2;have hc0:0<cs'.length:=by omega
        have:=World.block_lt_of_cell? w _ (g3 0 _ (lga hc0));simp only [Addr.add]at this;split at this<;>split at this<;>simp_all
       rw [hcap]at h3;simpa using h3
def zqg (C:Ctx U):Nat→List Field→List (TypeId × U.Ty)→Bool
 | _,[],[]=>true
 | off,f::fs,p::ps=>Nat.beq f.type p.1&&(Nat.beq f.offset off&&(Nat.beq (C.P.cellsOf p.1) (C.En.sz p.2)&&zqg C (off+C.En.sz p.2) fs ps))
 | _,_,_=>false
def zvc (C:Ctx U):List (TypeId × U.Ty)→Nat
 | []=>0
 | p::ps=>C.En.sz p.2+zvc C ps
def zoa (C:Ctx U):List (Dyn U)→List (AV U)
 | []=>[]
 | d::ds=>C.En.enc d.ty d.val++zoa C ds
theorem zzs (L:ELaws C.En) (B:{H:Type}→DataW H→Nat) (hB:Bulk (fun {H}=>B (H:=H))) {H:Type} (enc:TypeId × Value→H) (w:World) (held:Bool) (fuel:Nat) (cs:List Value):∀(ps:List (TypeId × U.Ty)) (fs:List Field) (off:Nat) (xs:List (DataW H × List MemPlace)),
 zqg C off fs ps=true→(∀p∈ps,zh1 C p.1 p.2)→fs.mapM (fun f=>DataW.trod enc C.P w 0 (fun _=>true) held fuel f.type ((cs.drop f.offset).take (C.P.cellsOf f.type)))=some xs→cs.length=off+zvc C ps→
 (∃ds:List (Dyn U),ds.map (·.ty)=ps.map (·.2)∧(zoa C ds).length=zvc C ps∧(∀(j:Nat) c u,(zoa C ds)[j]?=some c→cs[off+j]?=some u→V C.En zi6 (zl0 w) c u)∧∀n,(∀x∈xs,B x.1≤n)→∀c∈zoa C ds,Wfc C.En n c)∧
 ∀w',Below w.heap.size w w'→fs.mapM (fun f=>DataW.trod enc C.P w' 0 (zvh w) held fuel f.type ((cs.drop f.offset).take (C.P.cellsOf f.type)))=some xs
 | [],[],off,xs,hok,hr,hm,hl=>by
  simp at hm;subst hm;exact⟨⟨[],rfl,rfl,fun j c u hj=>by simp [zoa]at hj,fun n _ c hc=>by simp [zoa]at hc⟩,fun w' _=>by simp⟩
 | [],_::_,off,xs,hok,hr,hm,hl=>by simp [zqg]at hok
 | _::_,[],off,xs,hok,hr,hm,hl=>by simp [zqg]at hok
 | p::ps,f::fs,off,xs,hok,hr,hm,hl=>by
  simp only [zqg,baa,zca,decide_eq_true_eq]at hok;obtain⟨h1,h2,h3,h4⟩:=hok;rw [List.mapM_cons]at hm;simp only [Option.bind_eq_bind,Option.pure_def,oba,Option.some.injEq]at hm;obtain⟨y,hy,ys,hys,rfl⟩:=hm;simp only [zvc]at hl;obtain⟨⟨ds,g1,g2,g3,g4⟩,g5⟩:=zzs L B hB enc w held fuel cs ps fs (off+C.En.sz p.2) ys h4 (fun q hq=>hr q (mca _ hq)) hys (by omega);rw [h1,h2,h3]at hy;obtain⟨⟨x,k1,k2,k3⟩,k4⟩:=hr p msa B hB enc w held fuel _ y.1 y.2 hy;have hxl:=L.sz p.2 x;refine⟨⟨⟨p.2,x⟩::ds,by simp [g1],by simp [zoa,zvc,g2,hxl],fun j c u hj hu=> ?_,fun n hn c hc=> ?_⟩,fun w' hb=> ?_⟩
  · simp only [zoa]at hj;rw [List.getElem?_append]at hj;split at hj
    · rename_i hlt;refine k2 j c u hj ?_;rw [List.getElem?_take,if_pos (by omega),List.getElem?_drop];exact hu
    · rename_i hge;refine g3 _ c u hj ?_;rw [←hu]
      congr 1
      omega
  · simp only [zoa,List.mem_append]at hc;rcases hc with hc|hc
    · exact k3 n (hn _ msa) c hc
    · exact g4 n (fun x hx=>hn x (mca _ hx)) c hc
  · rw [List.mapM_cons];have e1:=k4 w' hb;rw [h1,h2,h3,e1,g5 w' hb];rfl
theorem zi2 (L:ELaws C.En) {T:TypeId} {fs:Array Field} {t:U.Ty} {ps:List (TypeId × U.Ty)} (hu:C.P.underlying T=some (.struct fs)) (hok:zqg C 0 fs.toList ps=true) (hsz:C.P.cellsOf T=zvc C ps) (hst:C.En.sz t=zvc C ps) (hr:∀p∈ps,zh1 C p.1 p.2)
 (hmk:∀y:PT U (ps.map (·.2)),∃x:U.den t,C.En.enc t x=zoa C (zen U (ps.map (·.2)) y)):zh1 C T t:=by
 intro B hB H enc w held fuel cs d ps' h
 obtain⟨xs,n,rfl,hx,hl,hxl,hf⟩:=DataW.trod_struct hu h
 cases hx
 have h':=h
 unfold DataW.trod at h'
 rw [hu]at h'
 have hm:fs.toList.mapM (fun f=>DataW.trod enc C.P w 0 (fun _=>true) held n f.type ((cs.drop f.offset).take (C.P.cellsOf f.type)))=some xs:=by
  have hh:(if cs.length=C.P.cellsOf T then(fs.toList.mapM fun f=>DataW.trod enc C.P w 0 (fun _=>true) held n f.type ((cs.drop f.offset).take (C.P.cellsOf f.type))).map fun xs=>((DataW.agg (xs.map (·.1)):DataW H),xs.flatMap (·.2))else none)=some (.agg (xs.map (·.1)),xs.flatMap (·.2)):=by
   revert h'
   cases cs with
   | nil=>exact id
   | cons c r=>cases c<;>cases r<;>exact id
  rw [if_pos hl,oma]at hh;obtain⟨xs',h1,h2⟩:=hh;rw [h1]
  congr 1
  apply List.ext_getElem?;intro i;have hll:xs'.length=fs.size:=by have:=Lib.mapM_length h1;simpa using this
  by_cases hi:i<fs.size
  · obtain⟨b,hb1,hb2⟩:=Lib.mapM_at h1 i fs[i] (by simp [hi]);rw [hb1,←hf i fs[i] (by simp [hi]),hb2]
  · rw [List.getElem?_eq_none (by omega),List.getElem?_eq_none (by omega)]
 obtain⟨⟨ds,g1,g2,g3,g4⟩,g5⟩:=zzs L B hB enc w held n cs ps fs.toList 0 xs hok hr hm (by rw [hl,hsz];omega)
 have hy:∃y:PT U (ps.map (·.2)),zen U (ps.map (·.2)) y=ds:=by
  have key:∀(ts:List U.Ty) (ds:List (Dyn U)),ds.map (·.ty)=ts→∃y:PT U ts,zen U ts y=ds:=by
   intro ts
   induction ts with
   | nil=>
    intro ds h;simp at h;subst h;exact⟨(),rfl⟩
   | cons t ts ih=>
    intro ds h;cases ds with
    | nil=>simp at h
    | cons d ds=>
     simp only [List.map_cons,List.cons.injEq]at h;obtain⟨rfl,h2⟩:=h;cases ts with
     | nil=>
      simp at h2;subst h2;exact⟨d.val,rfl⟩
     | cons t2 ts=>
      obtain⟨y,hy⟩:=ih ds h2;exact⟨(d.val,y),by rw [←hy];rfl⟩
  exact key _ ds g1
 obtain⟨y,rfl⟩:=hy
 obtain⟨x,hx⟩:=hmk y
 refine⟨⟨x,by rw [hl,hsz,hst],fun j c u hj hu=> ?_,fun m hm c hc=> ?_⟩,fun w' hb=> ?_⟩
 · rw [hx]at hj;exact g3 j c u hj (by rw [Nat.zero_add];exact hu)
 · rw [hx]at hc;refine g4 m (fun z hz=> ?_) c hc;exact Nat.le_trans (hB.part _ _ (List.mem_map.2 ⟨z,hz,rfl⟩)) hm
 · have h5:=g5 w' hb;unfold DataW.trod;rw [hu];have hh:(if cs.length=C.P.cellsOf T then(fs.toList.mapM fun f=>DataW.trod enc C.P w' 0 (zvh w) held n f.type ((cs.drop f.offset).take (C.P.cellsOf f.type))).map fun xs=>((DataW.agg (xs.map (·.1)):DataW H),xs.flatMap (·.2))else none)=some (.agg (xs.map (·.1)),xs.flatMap (·.2)):=by
    rw [if_pos hl,h5];rfl
   revert hh
   cases cs with
   | nil=>exact id
   | cons c r=>cases c<;>cases r<;>exact id
end
open Go.RowKit Go.ChangeShapes
section
variable {U:Uni} {C:Ctx U}
def zmz (En:Enc U):Nat→DataW Unit→List (AV U)→Option (List (AV U))
 | n+1,.lit (.int k z),.sc (.int k' z')::r=>cond (k==k'&&z==z') (some r) none
 | n+1,.agg ds,l=>ds.foldlM (fun l d=>zmz En n d l) l
 | n+1,.slice es _,.lst t xs::r=>cond (Nat.beq es.length xs.length&&(es.zip xs).all fun p=>match zmz En n p.1 (En.enc t p.2)with|some []=>true|_=>false) (some r) none
 | _,_,_=>none
def zsx:Nat→List (Nat × Nat × TypeId)→Nat→Bool
 | off,[],tot=>Nat.beq off tot
 | off,s::ss,tot=>Nat.beq s.1 off&&zsx (off+s.2.1) ss tot
def z1j (P:Program) (fs:List Field):List (Nat × Nat × TypeId):=fs.map fun f=>(f.offset,P.cellsOf f.type,f.type)
def zq4 (P:Program):Nat→TypeId→Bool
 | 0,_=>false
 | n+1,T=>match P.underlying T with
  | some (.int _)=>true
  | some (.array m e)=>Nat.beq (P.cellsOf T) (m*P.cellsOf e)&&zq4 P n e
  | some (.struct fs)=>zsx 0 (z1j P fs.toList) (P.cellsOf T)&&fs.toList.all fun f=>zq4 P n f.type
  | some (.slice e)=>zq4 P n e
  | _=>false
theorem zakj (L:ELaws C.En) {w:World} {t:U.Ty} {xs:List (U.den t)} {a:Addr} {len cap:Nat} (hl:len=xs.length) (hc:len≤cap)
 (h:∀i x,xs[i]?=some x→∀(j:Nat) c,(C.En.enc t x)[j]?=some c→∃u,w.cell? ((a.add (i*C.En.sz t)).add j)=some u∧V C.En zi6 (zl0 w) c u):V C.En zi6 (zl0 w) (.lst t xs) (.slice (some a) len cap):=by
 have hpos:=L.pos t
 have hcell:∀i x,xs[i]?=some x→∀(j:Nat) c,(C.En.enc t x)[j]?=some c→∃u,w.cell? ⟨a.block,a.off+(i*C.En.sz t+j),none⟩=some u∧V C.En zi6 (zl0 w) c u:=by
  intro i x hx j c hj;obtain⟨u,h1,h2⟩:=h i x hx j c hj;refine⟨u,?_,h2⟩;rw [←h1]
  congr 1
  have hs:a.spot=none∨0<i*C.En.sz t+j:=by
   by_cases hz:0<i*C.En.sz t+j
   · exact .inr hz
   · left;have e1:i*C.En.sz t=0:=by omega
     have e2:j=0:=by omega
     rw [e1,e2]at h1;have:=zsy h1;simpa [Addr.add]using this
  simp only [Addr.add];obtain⟨ab,ao,asp⟩:=a;rcases hs with hs|hs
  · simp only at hs;subst hs;split<;>split<;>simp_all<;>omega
  · split<;>split<;>simp_all<;>omega
 refine .lst (b:=a.block) (o:=a.off) hl hc (fun hne=> ?_) (fun i j=>(w.cell? ⟨a.block,a.off+(i*C.En.sz t+j),none⟩).getD undef) (fun i x hx j c hj=> ?_) (fun i x hx j c hj=> ?_)
 · have h0:0<xs.length:=List.length_pos_iff.2 hne;have hc0:0<(C.En.enc t xs[0]).length:=by rw [L.sz];exact hpos
   obtain⟨u,h1,_⟩:=h 0 _ (lga h0) 0 _ (lga hc0);have hsp:=zsy h1;rw [Nat.zero_mul]at hsp;have:a.spot=none:=by simpa [Addr.add]using hsp
   obtain⟨ab,ao,asp⟩:=a;simp only at this;subst this;rfl
 · obtain⟨u,h1,_⟩:=hcell i x hx j c hj;show w.cell? _=_;rw [h1];rfl
 · obtain⟨u,h1,h2⟩:=hcell i x hx j c hj;rw [h1];exact h2
theorem zabf {En:Enc U} {n:Nat} {es sp:List (DataW Unit)} {l rest:List (AV U)} (h:zmz En (n+1) (.slice es sp) l=some rest):
 ∃t xs,l= .lst t xs::rest∧es.length=xs.length∧∀p∈es.zip xs,zmz En n p.1 (En.enc t p.2)=some []:=by
 cases l with
 | nil=>simp [zmz]at h
 | cons c r=>
  cases c with
  | lst t xs=>
   have h':cond (Nat.beq es.length xs.length&&(es.zip xs).all fun p=>match zmz En n p.1 (En.enc t p.2)with|some []=>true|_=>false) (some r) none=some rest:=h;obtain⟨h1,h2⟩:=zcv h';cases h2;simp only [baa,zca,decide_eq_true_eq,List.all_eq_true]at h1;refine⟨t,xs,rfl,h1.1,fun p hp=> ?_⟩;have:=h1.2 p hp;split at this
   · assumption
   · cases this
  | _=>simp [zmz]at h
theorem zae9 {En:Enc U} {n:Nat} {k:IntKind} {z:Int} {l rest:List (AV U)} (h:zmz En (n+1) (.lit (.int k z)) l=some rest):l= .sc (.int k z)::rest:=by
 cases l with
 | nil=>simp [zmz]at h
 | cons c r=>
  cases c with
  | sc v=>
   cases v with
   | int k' z'=>
    have h':cond (k==k'&&z==z') (some r) none=some rest:=h;obtain⟨h1,h2⟩:=zcv h';cases h2;simp only [baa,beq_iff_eq]at h1;obtain⟨rfl,rfl⟩:=h1;rfl
   | _=>simp [zmz]at h
  | _=>simp [zmz]at h
theorem z0z (L:ELaws C.En) {w:World} {sp:Nat→Bool} {held:Bool}:∀(n m fuel:Nat) (T:TypeId) (cs:List Value) (d:DataW Unit) (ps:List MemPlace) (av rest:List (AV U)),zq4 C.P m T=true→DataW.trod (fun _=>()) C.P w 0 sp held fuel T cs=some (d,ps)→zmz C.En n d av=some rest→
 ∃p,av=p++rest∧F2 (V C.En zi6 (zl0 w)) p cs
 | 0,m,fuel,T,cs,d,ps,av,rest,hp,h,hd=>by simp [zmz]at hd
 | n+1,0,fuel,T,cs,d,ps,av,rest,hp,h,hd=>by simp [zq4]at hp
 | n+1,m+1,fuel,T,cs,d,ps,av,rest,hp,h,hd=>by
  have segs:∀(g:Nat) (ss:List (Nat × Nat × TypeId)) (ys:List (DataW Unit × List MemPlace)) (off:Nat) (av rest:List (AV U)),ss.length=ys.length→(∀(i:Nat) s,ss[i]?=some s→zq4 C.P m s.2.2=true∧DataW.trod (fun _=>()) C.P w 0 sp held g s.2.2 ((cs.drop s.1).take s.2.1)=ys[i]?)→
   zsx off ss cs.length=true→(ys.map (·.1)).foldlM (fun l d=>zmz C.En n d l) av=some rest→∃p,av=p++rest∧F2 (V C.En zi6 (zl0 w)) p (cs.drop off):=by
   intro g ss
   induction ss with
   | nil=>
    intro ys off av rest hl _ ht hf;cases ys with
    | cons=>simp at hl
    | nil=>
     simp [zsx]at ht;simp at hf;subst hf;subst ht;exact⟨[],rfl,by rw [List.drop_length];exact .nil⟩
   | cons s ss ih=>
    intro ys off av rest hl hh ht hf;cases ys with
    | nil=>simp at hl
    | cons y ys=>
     simp only [zsx,baa,zca,decide_eq_true_eq]at ht;obtain⟨e,ht⟩:=ht;simp only [List.map_cons,List.foldlM_cons,Option.bind_eq_bind,oba]at hf;obtain⟨mid,h1,h2⟩:=hf;obtain⟨k1,k2⟩:=hh 0 s rfl;obtain⟨p1,e1,f1⟩:=z0z L n m g _ _ y.1 y.2 av mid k1 (by rw [k2];rfl) h1;obtain⟨p2,e2,f2⟩:=ih ys (off+s.2.1) mid rest (by simpa using hl) (fun i s hs=>hh (i+1) s hs) ht h2;refine⟨p1++p2,by rw [e1,e2,List.append_assoc],?_⟩;have:cs.drop off=(cs.drop s.1).take s.2.1++cs.drop (off+s.2.1):=by
      rw [e,←List.drop_drop,List.take_append_drop]
     rw [this];exact f1.append f2
  unfold zq4 at hp;split at hp
  · rename_i k hu;obtain⟨z,rfl,hx,_⟩:=DataW.trod_int hu h;cases hx;exact⟨_,zae9 hd,.cons (.sc _) .nil⟩
  · rename_i q e hu;obtain⟨xs,g,rfl,hx,hl,hxl,hall⟩:=DataW.trod_array hu h;cases hx;simp only [baa,zca,decide_eq_true_eq]at hp;have hd':(xs.map (·.1)).foldlM (fun l d=>zmz C.En n d l) av=some rest:=hd;have tl:∀(k i:Nat),zsx (i*C.P.cellsOf e) ((List.range' i k).map fun i=>(i*C.P.cellsOf e,C.P.cellsOf e,e)) ((i+k)*C.P.cellsOf e)=true:=by
     intro k
     induction k with
     | zero=>intro i;simp [zsx]
     | succ k ih=>
      intro i;simp only [List.range'_succ,List.map_cons,zsx,baa,zca,decide_eq_true_eq,true_and];have:=ih (i+1);rw [Nat.add_mul,Nat.one_mul]at this;rw [show(i+(k+1))=i+1+k by omega];exact this
    obtain⟨p,e1,f1⟩:=segs g ((List.range' 0 q).map fun i=>(i*C.P.cellsOf e,C.P.cellsOf e,e)) xs 0 av rest (by simp [hxl]) (fun i s hs=>by
     simp only [gem,oma]at hs;obtain⟨i',h1,rfl⟩:=hs;rw [List.getElem?_eq_some_iff]at h1;obtain⟨h2,h3⟩:=h1;simp at h2 h3;subst h3;exact⟨hp.2,hall i (by omega)⟩) (by have:=tl q 0;rw [Nat.zero_mul,Nat.zero_add]at this;rw [hl,hp.1];exact this) hd'
    exact⟨p,e1,by simpa using f1⟩
  · rename_i fs hu;obtain⟨xs,g,rfl,hx,hl,hxl,hall⟩:=DataW.trod_struct hu h;cases hx;simp only [baa]at hp;have hd':(xs.map (·.1)).foldlM (fun l d=>zmz C.En n d l) av=some rest:=hd;obtain⟨p,e1,f1⟩:=segs g (z1j C.P fs.toList) xs 0 av rest (by simp [z1j,hxl]) (fun i s hs=>by
     simp only [z1j,gem,oma]at hs;obtain⟨f,h1,rfl⟩:=hs;exact⟨lat hp.2 f (lma h1),hall i f (by simpa using h1)⟩) (by rw [hl];exact hp.1) hd'
    exact⟨p,e1,by simpa using f1⟩
  · rename_i e hu;rcases DataW.trod_slice hu h with⟨rfl,hx⟩|⟨a,len,cap,elems,rs,g,rfl,rfl,hx,_,hlc,_,hlen,hel,_,_⟩
    · cases hx;simp [zmz]at hd
    · cases hx;obtain⟨t,xs,e0,h3,h4⟩:=zabf hd;simp only [List.length_map]at h3;refine⟨[.lst t xs],e0,.cons (zakj L (by omega) hlc fun i x hx j c hj=> ?_) .nil⟩;have hi:i<len:=by have:=(gea hx).1;omega
      have hh:=hel i hi;rw [lga (by omega),oba]at hh;obtain⟨cs',g1,g2⟩:=hh;have hz:=h4 (elems[i].1,x) (lma (i:=i) (List.getElem?_zip_eq_some.2 ⟨by rw [gem,lga (show i<elems.length by omega)];rfl,hx⟩));obtain⟨p,e1,f1⟩:=z0z L n m g e cs' elems[i].1 elems[i].2 _ [] hp g2 hz;simp only [List.append_nil]at e1;subst e1;obtain⟨g3,g4⟩:=cells?_at g1;have hsz:C.P.cellsOf e=C.En.sz t:=by rw [←g3,←f1.length,L.sz]
      have hjl:j<cs'.length:=by rw [←f1.length];exact(gea hj).1
      refine⟨cs'[j],?_,f1.get j _ _ hj (lga hjl)⟩;rw [←hsz];exact g4 j _ (lga hjl)
  · cases hp
end
section
variable {U:Uni} {C:Ctx U}
theorem z9l {α:Type} {β:Type} (f:α→List β) (n:Nat):∀(xs:List α),(∀x∈xs,(f x).length=n)→∀i x,xs[i]?=some x→∀(j:Nat) c,(f x)[j]?=some c→(xs.flatMap f)[i*n+j]?=some c
 | [],_,i,x,hx,_,_,_=>by simp at hx
 | y::ys,hl,i,x,hx,j,c,hj=>by
  have hy:=hl y msa;cases i with
  | zero=>
   cases hx;have:j<(f y).length:=(gea hj).1;simp only [List.flatMap_cons,Nat.zero_mul,Nat.zero_add];rw [List.getElem?_append_left this];exact hj
  | succ i=>
   simp only [List.flatMap_cons];rw [List.getElem?_append_right (by rw [hy,Nat.succ_mul];omega),hy,show(i+1)*n+j-n=i*n+j by rw [Nat.succ_mul];omega];exact z9l f n ys (fun x hx=>hl x (mca _ hx)) i x hx j c hj
theorem flat_len {α:Type} {β:Type} (f:α→List β) (n:Nat):∀(xs:List α),(∀x∈xs,(f x).length=n)→(xs.flatMap f).length=xs.length*n
 | [],_=>by simp
 | y::ys,hl=>by
  simp only [List.flatMap_cons,List.length_append,List.length_cons,hl y msa,flat_len f n ys fun x hx=>hl x (mca _ hx)];rw [Nat.succ_mul];omega
def zafw (C:Ctx U) (laid:List (String × DataW Unit)) (p:Nat × AV U):Bool:=
 match p.2 with
 | .rarr t xs=>laid.any fun x=>(match C.P.globalNamed x.1 with|some g=>Nat.beq g p.1|none=>false)&&((match(C.P.globals[p.1]?).map (·.type)with|some T=>zq4 C.P 8 T|none=>false)&&(match zmz C.En 8 x.2 (xs.flatMap (C.En.enc t))with|some []=>true|_=>false))
 | _=>false
theorem zajp (L:ELaws C.En) {globs:List (Nat × AV U)} (hG:C.G=pick globs) {laid:List (String × DataW Unit)} (hb:globs.all (zafw C laid)=true) {W:World} (hL:laidMet C.P laid W):GOK C (zl0 W) W:=by
 have key:∀g av,C.G g=some av→∃t xs cs T fz,av= .rarr t xs∧W.heap[g]?=some (.cells cs T fz)∧F2 (V C.En zi6 (zl0 W)) (xs.flatMap (C.En.enc t)) cs.toList:=by
  intro g av hg;rw [hG]at hg;have h1:=lat hb _ (zp9 hg);unfold zafw at h1;simp only at h1;split at h1
  · rename_i t xs;simp only [List.any_eq_true,baa]at h1;obtain⟨⟨nm,d⟩,hm,h2,h3,h4⟩:=h1;obtain⟨g',T,cs,fuel,p,k1,k2,k3,k4⟩:=Lib.laidMet.reads hL hm;simp only at h2 h4;rw [k1]at h2;simp only [zca,decide_eq_true_eq]at h2;subst h2;rw [k2]at h3;simp only at h3;split at h4
    · rename_i h4';obtain⟨q,e1,f1⟩:=z0z L 8 8 fuel T cs.toList d p _ [] h3 k4 h4';simp only [List.append_nil]at e1;subst e1;unfold World.var? at k3;rw [k1]at k3;simp only [obz]at k3;split at k3
      · rename_i cs' T' fz hh;cases k3;exact⟨t,xs,cs,T',fz,rfl,hh,f1⟩
      · cases k3
    · cases h4
  · cases h1
 constructor
 · intro g av hg;obtain⟨t,xs,cs,T,fz,rfl,h1,h2⟩:=key g av hg;have cell:∀i x,xs[i]?=some x→∀(j:Nat) c,(C.En.enc t x)[j]?=some c→∃u,W.cell? ⟨g,0+(i*C.En.sz t+j),none⟩=some u∧V C.En zi6 (zl0 W) c u:=by
    intro i x hx j c hj;have h3:=z9l (C.En.enc t) (C.En.sz t) xs (fun x _=>L.sz t x) i x hx j c hj;have hlt:i*C.En.sz t+j<cs.toList.length:=by rw [←h2.length];exact(gea h3).1
    refine⟨cs.toList[i*C.En.sz t+j],?_,h2.get _ _ _ h3 (lga hlt)⟩;unfold World.cell?;rw [h1,Nat.zero_add];simp only [Array.length_toList]at hlt;simp [hlt]
   refine⟨?_,fun μ=> ?_⟩
   · trivial
   · refine .rarr (fun i j=>(W.cell? ⟨g,0+(i*C.En.sz t+j),none⟩).getD undef) (fun i x hx j c hj=> ?_) (fun i x hx j c hj=> ?_)
     · obtain⟨u,k1,k2⟩:=cell i x hx j c hj;show W.cell? _=_;rw [k1];rfl
     · obtain⟨u,k1,k2⟩:=cell i x hx j c hj;rw [k1];exact k2.mono (Fz.le_refl _) (fun k l hk=>by cases hk)
 · intro g t xs hg;obtain⟨t',xs',cs,T,fz,e,h1,h2⟩:=key g _ hg;cases e;refine⟨cs,T,fz,h1,?_⟩;have:=h2.length;rw [flat_len (C.En.enc t) (C.En.sz t) xs fun x _=>L.sz t x]at this;simpa using this.symm
theorem zabv (L:CLaws C) {T:TypeId} {t:U.Ty} (hagg:zec C T=some (C.En.agg t)) {W:World} {base:Nat} {v:Value} (hok:Value.okWide C.P W .any base T v) {T':TypeDesc} (hu:C.P.underlying T=some T')
 (hb:T'= .bool∨T'= .string∨(∃k,T'= .int k)∨(∃e,T'= .slice e)∨∃fs,T'= .struct fs) {x:U.den t} {w:World} (hl:v.cells.toList.length=C.En.sz t) (hV:∀(j:Nat) c u,(C.En.enc t x)[j]?=some c→v.cells.toList[j]?=some u→V C.En zi6 (zl0 w) c u):
 V C.En zi6 (zl0 w) (C.En.value t x) v:=by
 unfold zec at hagg
 unfold Value.okWide at hok
 rw [hu]at hagg hok
 have hsz:=L.e.sz t x
 have plain:v.cells= #[v]→C.En.agg t=false→V C.En zi6 (zl0 w) (C.En.value t x) v:=by
  intro hv ha;rw [hv]at hV;unfold Enc.value;rw [ha];have h1:=L.e.one t ha;rw [h1]at hsz;cases he:C.En.enc t x with
  | nil=>rw [he]at hsz;simp at hsz
  | cons c r=>exact hV 0 c v (by rw [he];rfl) rfl
 rcases hb with rfl|rfl|⟨k,rfl⟩|⟨e,rfl⟩|⟨fs,rfl⟩
 · simp only [Option.some.injEq]at hagg;refine plain ?_ hagg.symm;simp only [Cell.okWide,hu,Cell.ok]at hok;cases v<;>first|rfl|exact absurd hok id
 · simp only [Option.some.injEq]at hagg;refine plain ?_ hagg.symm;simp only [Cell.okWide,hu,Cell.ok]at hok;cases v<;>first|rfl|exact absurd hok id
 · simp only [Option.some.injEq]at hagg;refine plain ?_ hagg.symm;simp only [Cell.okWide,hu,Cell.ok]at hok;cases v<;>first|rfl|exact absurd hok id
 · simp only [Option.some.injEq]at hagg;refine plain ?_ hagg.symm;simp only [Cell.okWide,hu,Cell.ok]at hok;cases v<;>first|rfl|exact absurd hok id
 · simp only [Option.some.injEq]at hagg;obtain⟨cs,rfl,_,_⟩:=hok;unfold Enc.value;rw [←hagg];have hl':cs.toList.length=C.En.sz t:=hl;refine .agg (by rw [hsz,←hl'];simp) fun j c hj=> ?_;have hj':j<cs.size:=by
    have:=(gea hj).1;have e:cs.toList.length=cs.size:=Array.length_toList;omega
   rw [agd,Array.getElem?_eq_getElem hj'];exact hV j c _ hj (by show cs.toList[j]?=_;simp [hj'])
structure ParOk (C:Ctx U) (p:TypeId × U.Ty):Prop where
 rd:zh1 C p.1 p.2
 agg:zec C p.1=some (C.En.agg p.2)
 kind:∃T',C.P.underlying p.1=some T'∧(T'= .bool∨T'= .string∨(∃k,T'= .int k)∨(∃e,T'= .slice e)∨∃fs,T'= .struct fs)
theorem z4n (L:CLaws C) (B:{H:Type}→DataW H→Nat) (hB:Bulk (fun {H}=>B (H:=H))) {H:Type} (enc:TypeId × Value→H) (W:World) (base:Nat) (held:Bool):∀(ps:List (TypeId × U.Ty)) (vs:List Value) (ds:List (DataW H)) (pl:List MemPlace),
 (∀p∈ps,ParOk C p)→(∀(j:Nat) t v,(ps.map (·.1))[j]?=some t→vs[j]?=some v→Value.okWide C.P W .any base t v)→DataW.TrodAll enc C.P W 0 (fun _=>true) held (ps.map (·.1)) vs ds pl→
 ∃es:List (Dyn U),es.map (·.ty)=ps.map (·.2)∧F2 (V C.En zi6 (zl0 W)) (es.map fun e=>C.En.value e.ty e.val) vs∧ds.length=ps.length∧(∀n,(∀d∈ds,B d≤n)→∀e∈es,Wft C.En n e.ty e.val)∧
  ∀w',Below W.heap.size W w'→DataW.TrodAll enc C.P w' 0 (zvh W) held (ps.map (·.1)) vs ds pl
 | [],vs,ds,pl,_,_,h=>by
  obtain⟨rfl,rfl,rfl⟩:=trodAll_nil h;exact⟨[],rfl,.nil,rfl,fun n _ e he=>by simp at he,fun w' _=>h⟩
 | p::ps,vs,ds,pl,hp,hval,h=>by
  obtain⟨v,vs',d,ds',p1,q,rfl,rfl,rfl,⟨fuel,h1⟩,h2⟩:=trodAll_cons h;obtain⟨es,g1,g2,g3,g4,g5⟩:=z4n L B hB enc W base held ps vs' ds' q (fun q hq=>hp q (mca _ hq)) (fun j t v ht hv=>hval (j+1) t v ht hv) h2;have P:=hp p msa;obtain⟨⟨x,k1,k2,k3⟩,k4⟩:=P.rd B hB enc W held fuel _ d p1 h1;obtain⟨T',u1,u2⟩:=P.kind;refine⟨⟨p.2,x⟩::es,by simp [g1],.cons (zabv L P.agg (hval 0 p.1 v rfl rfl) u1 u2 k1 k2) g2,by simp [g3],fun n hn e he=> ?_,fun w' hb=> ?_⟩
  · rcases mco he with rfl|he
    · exact k3 n (hn _ msa)
    · exact g4 n (fun d hd=>hn d (mca _ hd)) e he
  · exact⟨p1,q,⟨fuel,k4 w' hb⟩,g5 w' hb,rfl⟩
theorem z4t (L:CLaws C) {f:FuncId} {fn:Func} {bt:TypeId} {ps:List (TypeId × U.Ty)} (hps:fn.params.toList=ps.map (·.1)) (hrt:fn.resultTypes= #[bt]) (hbt:C.P.underlying bt=some .bool) (hpar:∀p∈ps,ParOk C p)
 (B:{H:Type}→DataW H→Nat) (hB:Bulk (fun {H}=>B (H:=H))) (n:Nat)
 (law:∀es:List (Dyn U),es.map (·.ty)=ps.map (·.2)→(∀e∈es,Wft C.En n e.ty e.val)→∃(ct:Ct U) (y:PT U (ct.results++ct.outs)),zif C f ct∧zmp C ct.params es=some (es.map fun e=>C.En.value e.ty e.val,[])∧ct.fn es=some y∧zb6 C 9000000 ct.fresh ((zen U (ct.results++ct.outs) y).take ct.results.length)=some (.sc (.bool true),[]))
 {H:Type} {enc:TypeId × Value→H} {s:ChangeSpec} (hsv:s.vars=[]) (hs:∀ds:List (DataW H),ds.length=ps.length→(s.fn H ds).results=[.lit (.bool true)]∧(s.fn H ds).args=ds∧(s.fn H ds).vars=[])
 {apart fresh handsOn:Bool} {W:World} {base:Nat} {args:Array Value} {ds gs:List (DataW H)} {before:List MemPlace} (hval:∀(j:Nat) t v,fn.params[j]?=some t→args[j]?=some v→Value.okWide C.P W .any base t v)
 (hW:DataW.Whole enc C.P fn.params.toList s.vars apart W args.toList ds gs before) (hG:GOK C (zl0 W) W) (hbd:∀d∈ds,B d≤n):
 Calls C.P f args W fun e W'=>∃v,e= .returned v∧s.post enc C.P fn apart fresh handsOn false W args v W':=by
 have hW':=hW
 obtain⟨p,q,hA,hV,rfl,hfz,hnd⟩:=hW
 rw [hsv]at hV
 obtain⟨rfl,rfl⟩:=trodVars_none hV
 rw [hps]at hA
 obtain⟨es,g1,g2,g3,g4,g5⟩:=z4n L B hB enc W base true ps args.toList ds p hpar (fun j t v ht hv=>hval j t v (by rw [←Array.getElem?_toList,hps];exact ht) (by rw [←Array.getElem?_toList];exact hv)) hA
 obtain⟨ct,y,M,h1,h2,h3⟩:=law es g1 (g4 n hbd)
 have hS:Sim C.En zi6 (zl0 W) [] W:={frz:=fun b o v h=>h,apart:=fun k k' l l' b o hk=>(by cases hk),free:=fun k l b o hk=>(by cases hk),inside:=fun k l b o hk=>(by cases hk),obj:=fun k l hk=>(by cases hk)}
 have hc:=M.2 es y h2 _ _ h1 zi6 (zl0 W) W args.toList g2 hS hG
 rw [Array.toArray_toList]at hc
 refine hc.mono fun e W' he=> ?_
 cases e with
 | panicked c=>exact absurd he id
 | outgrown=>exact absurd he id
 | returned u=>
  obtain⟨rv,hf,ho,ml,H',r1,r2,r3,r4,r5,r6,r7,r8,r9,r10,r11⟩:=he;rw [h3]at r1;cases r1;obtain rfl:u= .bool true:=by cases r6;rfl
  have hbel:Below W.heap.size W W':=by
   refine Wd.below (r9.weaken fun b o _ hh=>(by obtain⟨k,l,hk,_⟩:=hh;cases hk))
  obtain⟨s1,s2,s3⟩:=hs (ds++[]) (by simpa using g3);refine⟨_,rfl,ds,[],p++[],[],p,[],hW',?_,?_,?_,?_,fun h=>by cases h⟩
  · rw [s1,hrt];exact⟨[],[],shut_bool hbt true,rfl,rfl⟩
  · rw [s2,hps,List.append_nil];exact g5 W' hbel
  · rw [s3,hsv];rfl
  · exact hbel.frame _
end
theorem zaii {n:Int} (h1: -9223372036854775808≤n) (h2:n≤9223372036854775807):IntKind.wrap .i64 n=n:=by
 have e:(2:Int)^(IntKind.i64.bits)=18446744073709551616:=by decide
 have e':(2:Int)^(IntKind.i64.bits-1)=9223372036854775808:=by decide
 unfold IntKind.wrap
 simp only [e,e']
 have:IntKind.i64.signed=true:=rfl
 simp only [this,Bool.true_and,decide_eq_true_eq,ge_iff_le]
 split<;>omega
theorem zcm {R α:Type} {f:α→Option (Round R α)} (S:Nat→α) (g:Nat→Option R) (n:Nat) (h:∀i,i<n→f (S i)=some (match g i with|some r=> .result r|none=> .again (S (i+1)))) (hl:f (S n)=some (.leave (S n))) {N:Nat} (hN:n<N):
 zp f N (S 0)=some (match(List.range n).findSome? g with|some r=> .inl r|none=> .inr (S n)):=by
 have key:∀k i N,i+k=n→k<N→zp f N (S i)=some (match(List.range' i k).findSome? g with|some r=> .inl r|none=> .inr (S n)):=by
  intro k
  induction k with
  | zero=>
   intro i N hi hN;obtain⟨m,rfl⟩:∃m,N=m+1:=⟨N-1,by omega⟩;obtain rfl:i=n:=by omega
   simp only [zp,hl,obz];rfl
  | succ k ih=>
   intro i N hi hN;obtain⟨m,rfl⟩:∃m,N=m+1:=⟨N-1,by omega⟩;simp only [zp,h i (by omega),obz,List.range'_succ,List.findSome?_cons];cases hg:g i with
   | some r=>rfl
   | none=>exact ih (i+1) m (by omega) (by omega)
 rw [List.range_eq_range']
 exact key n 0 N (by omega) hN
theorem zdb {α:Type} {f:α→Option (Stp α)} (S:Nat→α) (n:Nat) (h:∀i,i<n→f (S i)=some (.again (S (i+1)))) (hl:f (S n)=some (.leave (S n))) {N:Nat} (hN:n<N):zi f N (S 0)=some (S n):=by
 have key:∀k i N,i+k=n→k<N→zi f N (S i)=some (S n):=by
  intro k
  induction k with
  | zero=>
   intro i N hi hN;obtain⟨m,rfl⟩:∃m,N=m+1:=⟨N-1,by omega⟩;obtain rfl:i=n:=by omega
   simp only [zi,hl,obz]
  | succ k ih=>
   intro i N hi hN;obtain⟨m,rfl⟩:∃m,N=m+1:=⟨N-1,by omega⟩;simp only [zi,h i (by omega),obz];exact ih (i+1) m (by omega) (by omega)
 exact key n 0 N (by omega) hN
theorem zt4 {α:Type} {f:α→Option (Stp α)} (I:Nat→α→Prop) (n:Nat) (h:∀i s,i<n→I i s→∃s',f s=some (.again s')∧I (i+1) s') (hl:∀s,I n s→∃s',f s=some (.leave s')∧I n s') {N:Nat} (hN:n<N) {s:α} (h0:I 0 s):∃s',zi f N s=some s'∧I n s':=by
 have key:∀k i N s,i+k=n→k<N→I i s→∃s',zi f N s=some s'∧I n s':=by
  intro k
  induction k with
  | zero=>
   intro i N s hi hN hs;obtain⟨m,rfl⟩:∃m,N=m+1:=⟨N-1,by omega⟩;obtain rfl:i=n:=by omega
   obtain⟨s',h1,h2⟩:=hl s hs;exact⟨s',by simp only [zi,h1,obz],h2⟩
  | succ k ih=>
   intro i N s hi hN hs;obtain⟨m,rfl⟩:∃m,N=m+1:=⟨N-1,by omega⟩;obtain⟨s1,h1,h2⟩:=h i s (by omega) hs;obtain⟨s',h3,h4⟩:=ih (i+1) m s1 (by omega) (by omega) h2;exact⟨s',by simp only [zi,h1,obz];exact h3,h4⟩
 exact key n 0 N s (by omega) hN h0
theorem zt3 {R α:Type} {f:α→Option (Round R α)} (I:Nat→α→Prop) (J:R→Prop) (n:Nat) (h:∀i s,i<n→I i s→(∃s',f s=some (.again s')∧I (i+1) s')∨∃r,f s=some (.result r)∧J r) (hl:∀s,I n s→∃s',f s=some (.leave s')∧I n s') {N:Nat} (hN:n<N) {s:α} (h0:I 0 s):
 (∃s',zp f N s=some (.inr s')∧I n s')∨∃r,zp f N s=some (.inl r)∧J r:=by
 have key:∀k i N s,i+k=n→k<N→I i s→(∃s',zp f N s=some (.inr s')∧I n s')∨∃r,zp f N s=some (.inl r)∧J r:=by
  intro k
  induction k with
  | zero=>
   intro i N s hi hN hs;obtain⟨m,rfl⟩:∃m,N=m+1:=⟨N-1,by omega⟩;obtain rfl:i=n:=by omega
   obtain⟨s',h1,h2⟩:=hl s hs;exact .inl ⟨s',by simp only [zp,h1,obz],h2⟩
  | succ k ih=>
   intro i N s hi hN hs;obtain⟨m,rfl⟩:∃m,N=m+1:=⟨N-1,by omega⟩;rcases h i s (by omega) hs with⟨s1,h1,h2⟩|⟨r,h1,h2⟩
   · rcases ih (i+1) m s1 (by omega) (by omega) h2 with⟨s',h3,h4⟩|⟨r,h3,h4⟩
     · exact .inl ⟨s',by simp only [zp,h1,obz];exact h3,h4⟩
     · exact .inr ⟨r,by simp only [zp,h1,obz];exact h3,h4⟩
   · exact .inr ⟨r,by simp only [zp,h1,obz],h2⟩
 exact key n 0 N s (by omega) hN h0
theorem zau {α:Type} (xs:List α) (i:Nat):idx xs (i:Int)=xs[i]?:=by
 unfold idx
 rw [if_pos (by omega)]
 rfl
theorem zny {α β:Type} (g:α→Option β):∀(l:List α),(List.range l.length).findSome? (fun i=>(l[i]?).bind g)=l.findSome? g:=by
 have key:∀(l:List α) (p:Nat) (a:List α),a.length=p→(List.range' p l.length).findSome? (fun i=>((a++l)[i]?).bind g)=l.findSome? g:=by
  intro l
  induction l with
  | nil=>intro p a _;simp
  | cons x l ih=>
   intro p a ha;simp only [List.length_cons,List.range'_succ,List.findSome?_cons];have e:(a++x::l)[p]?=some x:=by rw [List.getElem?_append_right (by omega)];simp [ha]
   rw [e,obz];cases g x with
   | some r=>rfl
   | none=>
    have:=ih (p+1) (a++[x]) (by simp [ha]);simpa using this
 intro l
 rw [List.range_eq_range']
 exact key l 0 [] rfl
theorem zbx (a b:Int):(a==b)=decide (a=b):=by
 by_cases h:a=b
 · simp [h]
 · rw [decide_eq_false h];exact beq_eq_false_iff_ne.2 h
theorem zde (a b:Int):(a !=b)=decide (a≠b):=by
 by_cases h:a=b
 · simp [h]
 · rw [decide_eq_true h];simpa using h
def zcu:List Int→Int
 | []=>0
 | x::l=>if x=0 then zcu l else x
theorem ztc:∀(l:List Int),(match l.findSome? (fun x=>if x=0 then none else some x)with|some r=>r|none=>0)=zcu l
 | []=>rfl
 | x::l=>by
  simp only [List.findSome?_cons,zcu]
  by_cases h:x=0
  · simp only [h,if_true];exact ztc l
  · simp only [h,if_false]
end Go.Amx
