/- A machine that evaluates the program's form by typed values, and the proof that it is sound: part 0. -/
import Derived.Orders
import Derived.Deep.MidRow
import Derived.Lib.ItoaNum
import Derived.Lib.Repeat
import Derived.Below
import Derived.Deep.OwnRows
import Derived.Laws.IdiomStrings
import Derived.Great.FillDense
namespace Go.Amx
set_option linter.unusedVariables false
theorem lat {α:Type _} {p:α→Bool} {l:List α} (h:l.all p=true):∀x,x∈l→p x=true:=List.all_eq_true.1 h
theorem lma {α:Type _} {l:List α} {i:Nat} {a:α} (h:l[i]?=some a):a∈l:=List.mem_of_getElem? h
theorem obz {α β:Type _} (a:α) (f:α→Option β):(some a).bind f=f a:=rfl
theorem gda {α:Type _} {l:List α} {i:Nat} {a:α}:l.getD i a=l[i]?.getD a:=List.getD_eq_getElem?_getD
theorem mpa {α:Type _} {a:α} {s t:List α} (h:a∈s++t):a∈s∨a∈t:=List.mem_append.1 h
theorem agd {α:Type _} {xs:Array α} {i:Nat} {d:α}:xs.getD i d=xs[i]?.getD d:=Array.getD_eq_getD_getElem?
theorem oma {α β:Type _} {b:β} {x:Option α} {f:α→β}:x.map f=some b↔∃a,x=some a∧f a=b:=Option.map_eq_some_iff
theorem gem {α β:Type _} {f:α→β} {l:List α} {i:Nat}:(l.map f)[i]?=l[i]?.map f:=List.getElem?_map
theorem mco {α:Type _} {b:α} {l:List α} {a:α} (h:a∈b::l):a=b∨a∈l:=List.mem_cons.1 h
theorem oba {α β:Type _} {b:β} {x:Option α} {f:α→Option β}:x.bind f=some b↔∃a,x=some a∧f a=some b:=Option.bind_eq_some_iff
theorem gea {α:Type _} {i:Nat} {a:α} {l:List α} (h:l[i]?=some a):∃h:i<l.length,l[i]=a:=List.getElem?_eq_some_iff.1 h
theorem mca {α:Type _} (y:α) {a:α} {l:List α} (h:a∈l):a∈y::l:=List.mem_cons_of_mem y h
theorem lga {α:Type _} {l:List α} {i:Nat} (h:i<l.length):l[i]?=some l[i]:=List.getElem?_eq_getElem h
theorem msa {α:Type _} {a:α} {l:List α}:a∈a::l:=List.mem_cons_self
theorem baa (a b:Bool):((a&&b)=true)=(a=true∧b=true):=Bool.and_eq_true a b
theorem mla {α:Type _} {a:α} {as:List α} (bs:List α) (h:a∈as):a∈as++bs:=List.mem_append_left bs h
theorem mra {α:Type _} {b:α} (as:List α) {bs:List α} (h:b∈bs):b∈as++bs:=List.mem_append_right as h
structure Uni where
 Ty:Type
 den:Ty→Type
 eqTy:(a b:Ty)→Option (PLift (a=b))
inductive zai where
 | full
 | suf (off:Nat)
 | sub (off len:Nat)
def zai.off:zai→Nat
 | .full=>0
 | .suf o=>o
 | .sub o _=>o
def zai.len (n:Nat):zai→Nat
 | .full=>n
 | .suf o=>n-o
 | .sub _ l=>l
inductive AV (U:Uni):Type where
 | sc (v:Value)
 | dead
 | ptr (k off:Nat)
 | eptr (k ver i off:Nat)
 | ixp (k off n:Nat) (i:Nat)
 | rptr (cs:List (AV U))
 | rarr (t:U.Ty) (xs:List (U.den t))
 | own (k ver:Nat) (w:zai)
 | lst (t:U.Ty) (xs:List (U.den t))
 | fn (f:FuncId) (caps:List (AV U))
 | agg (cs:List (AV U))
 | tup (vs:List (AV U))
structure Dyn (U:Uni) where
 ty:U.Ty
 val:U.den ty
def Dyn.as {U:Uni} (t:U.Ty) (d:Dyn U):Option (U.den t):=
 match U.eqTy d.ty t with
 | some ⟨h⟩=>some (h▸d.val)
 | none=>none
def PT (U:Uni):List U.Ty→Type
 | []=>Unit
 | [t]=>U.den t
 | t::u::ts=>U.den t × PT U (u::ts)
def zjm (U:Uni):(ts:List U.Ty)→List (Dyn U)→Option (PT U ts)
 | [],[]=>some ()
 | [t],[d]=>d.as t
 | t::u::ts,d::l=>(d.as t).bind fun x=>(zjm U (u::ts) l).bind fun y=>some (x,y)
 | _,_=>none
def zen (U:Uni):(ts:List U.Ty)→PT U ts→List (Dyn U)
 | [],_=>[]
 | [t],x=>[⟨t,x⟩]
 | t::u::ts,(x,y)=>⟨t,x⟩::zen U (u::ts) y
structure Enc (U:Uni) where
 sz:U.Ty→Nat
 agg:U.Ty→Bool
 flat:U.Ty→Bool
 enc:(t:U.Ty)→U.den t→List (AV U)
 reify:(t:U.Ty)→List (AV U)→Option (U.den t)
 ofGo:TypeId→Option U.Ty
 sl:U.Ty→U.Ty
 toSl:(t:U.Ty)→List (U.den t)→U.den (sl t)
 ofSl:(t:U.Ty)→U.den (sl t)→List (U.den t)
 u8:U.Ty
 ofInts:List Int→List (U.den u8)
 toInts:List (U.den u8)→List Int
def Enc.value {U:Uni} (En:Enc U) (t:U.Ty) (x:U.den t):AV U:=
 cond (En.agg t) (.agg (En.enc t x)) ((En.enc t x).headD .dead)
def AV.cells {U:Uni}:AV U→List (AV U)
 | .agg cs=>cs
 | v=>[v]
def AV.plain {U:Uni}:AV U→Bool
 | .sc (.agg _)| .dead| .tup _=>false
 | _=>true
def AV.one {U:Uni}:AV U→Bool
 | .sc v=>v.oneCell'
 | .dead| .agg _| .tup _=>false
 | _=>true
@[reducible] def Fnc (U:Uni):List U.Ty→Type→Type
 | [],R=>Option R
 | t::ts,R=>U.den t→Fnc U ts R
def app (U:Uni) {R:Type}:(ts:List U.Ty)→Fnc U ts R→List (Dyn U)→Option R
 | [],f,[]=>f
 | t::ts,f,d::ds=>(d.as t).bind fun x=>app U ts (f x) ds
 | _,_,_=>none
inductive Ob (U:Uni):Type where
 | box (cs:List (AV U))
 | arr (ver:Nat) (t:U.Ty) (xs:List (U.den t))
abbrev za (U:Uni):=List (Nat × Ob U)
def zc {U:Uni}:za U→Nat→Option (Ob U)
 | [],_=>none
 | (k',o)::h,k=>cond (Nat.beq k k') (some o) (zc h k)
def zed {U:Uni}:za U→Nat→Ob U→za U
 | [],k,o=>[(k,o)]
 | (k',o')::h,k,o=>cond (Nat.beq k k') ((k,o)::h) ((k',o')::zed h k o)
def zqt {U:Uni}:za U→Nat→za U
 | [],_=>[]
 | (k',o)::h,k=>cond (Nat.beq k k') (zqt h k) ((k',o)::zqt h k)
inductive Md (U:Uni) where
 | val (t:U.Ty)
 | ptr (t:U.Ty) (write:Bool) (owns:List Nat)
 | clo (f:FuncId) (n:Nat)
 | bclo (t:U.Ty) (f:FuncId) (n:Nat)
 | mov (t:U.Ty)
def Md.isMov {U:Uni}:Md U→Bool
 | .mov _=>true
 | _=>false
def zs4 {U:Uni} (l:List (Md U)):Bool:=l.all fun m=> !m.isMov
structure Ct (U:Uni) where
 params:List (Md U)
 results:List U.Ty
 outs:List U.Ty
 fresh:List Nat
 fn:List (Dyn U)→Option (PT U (results++outs))
inductive zkr (U:Uni) where
 | val (t:U.Ty)
 | ptr (k off:Nat)
 | own (k:Nat) (t:U.Ty)
 | same (i:Nat)
 | view (j k:Nat) (t:U.Ty)
 | ofbox (s k j:Nat)
 | fn (f:FuncId) (ks:List Nat)
def zkr.isBox {U:Uni}:zkr U→Bool
 | .ofbox _ _ _=>true
 | _=>false
structure Spec (U:Uni) where
 slots:List (Nat × zkr U)
 boxes:List (Nat × U.Ty × List Nat)
 fboxes:List (Nat × FuncId × List Nat):=[]
inductive Cut (U:Uni) (R:Type) where
 | plain (sp:Spec U) (ts:List U.Ty) (f:PT U ts→Option (PT U ts))
 | rets (sp:Spec U) (ts:List U.Ty) (f:PT U ts→Option (R ⊕ PT U ts))
structure Ctx (U:Uni) where
 P:Program
 En:Enc U
 G:Nat→Option (AV U)
 O:FuncId→Option (Ct U)
 X:FuncId→Option Nat
 joins:Nat→Option (Spec U × List U.Ty)
 pre:Nat→List Nat
 lits:List Nat
 ro:List Nat
 pk:List Nat
 bj:List Nat
section
variable {U:Uni}
def zuj:List (AV U)→Option (List Value)
 | []=>some []
 | .sc v::l=>(zuj l).map (v::·)
 | _::_=>none
def AV.toVal:AV U→Option Value
 | .sc v=>some v
 | .agg cs=>(zuj cs).map fun l=> .agg l.toArray
 | .tup cs=>(zuj cs).map fun l=> .tuple l.toArray
 | _=>none
def AV.ofVal:Value→AV U
 | .agg cs=> .agg (cs.toList.map .sc)
 | .tuple cs=> .tup (cs.toList.map .sc)
 | v=> .sc v
def zul {α:Type} (P:Program):Sem α→Option α
 | .pure a=>some a
 | .program k=>zul P (k P)
 | .mark _ k=>zul P k
 | _=>none
def opv (C:Ctx U) (E:List (AV U)):Operand→AV U
 | .tmp t=>E.getD t .dead
 | .const v=> .sc v
 | .global g=>(C.G g).getD .dead
 | .func f=> .fn f []
def idx {α:Type} (xs:List α) (i:Int):Option α:=if 0≤i then xs[i.toNat]? else none
def znh (s:ByteArray) (i:Int):Option UInt8:=if 0≤i then s[i.toNat]? else none
def zbh (C:Ctx U) (t:TypeId):Option Nat:=(C.P.info? t).map (·.size)
def zec (C:Ctx U) (t:TypeId):Option Bool:=
 match C.P.underlying t with
 | some (.struct _)|some (.array _ _)=>some true
 | some _=>some false
 | none=>none
def zbu {α:Type} (w:zai) (xs:List α):List α:=
 match w with
 | .full=>xs
 | .suf off=>xs.drop off
 | .sub off len=>(xs.drop off).take len
def zem (h:za U):AV U→AV U
 | .own k ver w=>
  match zc h k with
  | some (.arr ver' t xs)=>cond (Nat.beq ver ver') (.lst t (zbu w xs)) .dead
  | _=> .dead
 | v=>v
def zkd (C:Ctx U) (h:za U) (t:U.Ty) (a:AV U):Option (U.den t):=
 match C.En.agg t,a with
 | true,.agg cs=>C.En.reify t (cs.map (zem h))
 | true,_=>none
 | false,.agg _=>none
 | false,v=>C.En.reify t [zem h v]
def zj5 {R:Type} (C:Ctx U) (h:za U):AV U→(List (AV U)→Option R)→Option R
 | .rptr cs,k=>k cs
 | .ptr key off,k=>match zc h key with
  | some (.box cs)=>k (cs.drop off)
  | _=>none
 | .eptr key ver i off,k=>match zc h key with
  | some (.arr ver' t xs)=>cond (Nat.beq ver ver') (xs[i]?.bind fun x=>k ((C.En.enc t x).drop off)) none
  | _=>none
 | _,_=>none
def zog (C:Ctx U) (T:TypeId) (cs:List (AV U)):Option (AV U):=
 match zbh C T,zec C T with
 | some n,some true=>cond (Nat.ble n cs.length) (some (.agg (cs.take n))) none
 | some _,some false=>cs.head?
 | _,_=>none
def zkb (cs:List (AV U)) (off:Nat) (vs:List (AV U)):List (AV U):=cs.take off++vs++cs.drop (off+vs.length)
def zn8 (k:IntKind):List (AV U)→Option (List Int)
 | []=>some []
 | .sc (.int k' n)::l=>if k=k' then(zn8 k l).map (n::·)else none
 | _::_=>none
def z6t:List (AV U)→Option IntKind
 | .sc (.int k _)::_=>some k
 | _=>none
def zbk:List Int→Nat→Int
 | [],_=>0
 | x::l,i=>if i=0 then x else zbk l (i-1)
def zsa (k:IntKind) (v:Int) (i:Nat):Nat→List Int→List (AV U)
 | _,[]=>[]
 | j,x::l=> .sc (.int k (if i=j then v else x))::zsa k v i (j+1) l
def zqh (C:Ctx U) (s:TypeId) (f:Nat):Option Nat:=
 match C.P.underlying s with
 | some (.struct fs)=>match fs[f]? with
  | some fd=>match zbh C fd.type with
   | some (_+1)=>some fd.offset
   | _=>none
  | none=>none
 | _=>none
def zad0 (n:Nat):AV U→Option (AV U)
 | .ptr k off=>some (.ptr k (off+n))
 | .eptr k ver i off=>some (.eptr k ver i (off+n))
 | .rptr cs=>some (.rptr (cs.drop n))
 | _=>none
def zih (base:Nat) (owns:List Nat):Nat→List (AV U)→Option (List (AV U) × za U)
 | _,[]=>some ([],[])
 | j,c::cs=>match owns.contains j,c with
  | true,.lst t xs=>(zih base owns (j+1) cs).bind fun r=>some (.own (base+j) 0 .full::r.1,(base+j,.arr 0 t xs)::r.2)
  | true,_=>none
  | false,_=>(zih base owns (j+1) cs).bind fun r=>some (c::r.1,r.2)
def zbq {A B R:Type} (x:A ⊕ B) (f:A→Option R) (g:B→Option R):Option R:=
 match x with
 | .inl a=>f a
 | .inr b=>g b
def ze4 (h:za U) (owns:List Nat):Nat→List (AV U)→Option (List Nat)
 | _,[]=>some []
 | j,c::cs=>match owns.contains j,c with
  | true,.own k ver _=>match zc h k with
   | some (.arr ver' _ _)=>cond (Nat.beq ver ver') ((ze4 h owns (j+1) cs).map (k::·)) none
   | _=>none
  | true,.sc (.slice none 0 0)=>ze4 h owns (j+1) cs
  | true,_=>none
  | false,_=>ze4 h owns (j+1) cs
def zh0:List Nat→Bool
 | []=>true
 | k::l=> !l.contains k&&zh0 l
structure Pl (U:Uni) where
 k:Nat
 off:Nat
 ty:U.Ty
 write:Bool
 owns:List Nat
def zgf (owns:List Nat):Nat→List (AV U)→List Nat
 | _,[]=>[]
 | j,c::cs=>match owns.contains j,c with
  | false,.own k _ _=>k::zgf owns (j+1) cs
  | _,_=>zgf owns (j+1) cs
def zfl:AV U→List Nat
 | .own k _ _=>[k]
 | .agg cs=>cs.foldr (fun c acc=>match c with| .own k _ _=>k::acc|_=>acc) []
 | .fn _ cs=>cs.foldr (fun c acc=>match c with| .own k _ _=>k::acc|_=>acc) []
 | _=>[]
def zwo {t' t:U.Ty} (e:PLift (t'=t)) (xs:List (U.den t')):List (U.den t):=e.down▸xs
structure Coll (U:Uni) where
 ds:List (Dyn U)
 ps:List (Pl U)
 ks:List Nat
 bs:List Nat
 mv:List (Nat × Ob U)
def zaq (C:Ctx U) (h:za U):List (Md U)→List (AV U)→Option (Coll U)
 | [],[]=>some ⟨[],[],[],[],[]⟩
 | .val t::ms,a::as=>(zkd C h t a).bind fun x=>(zaq C h ms as).bind fun r=>some {r with ds:=⟨t,x⟩::r.ds,bs:=zfl a++r.bs}
 | .ptr t wr owns::ms,.ptr k off::as=>match zc h k with
  | some (.box cs)=>cond (Nat.ble (off+C.En.sz t) cs.length) ((C.En.reify t (((cs.drop off).take (C.En.sz t)).map (zem h))).bind fun x=>
   match ze4 h owns 0 ((cs.drop off).take (C.En.sz t))with
   | some ks=>(zaq C h ms as).bind fun r=>some ⟨⟨t,x⟩::r.ds,⟨k,off,t,wr,owns⟩::r.ps,ks++r.ks,zgf owns 0 ((cs.drop off).take (C.En.sz t))++r.bs,r.mv⟩
   | none=>none) none
  | _=>none
 | .clo f n::ms,.fn g caps::as=>cond (Nat.beq f g&&Nat.beq caps.length n) (zaq C h ms (caps++as)) none
 | .bclo t f n::ms,.ptr k off::as=>match zc h k with
  | some (.box cs)=>match cs.drop off with
   | .fn g caps::_=>cond ((Nat.beq f g&&Nat.beq caps.length n)&&Nat.beq (C.En.sz t) 1) ((zaq C h ms (caps++as)).bind fun r=>some ⟨r.ds,⟨k,off,t,false,[]⟩::r.ps,r.ks,r.bs,r.mv⟩) none
   | _=>none
  | _=>none
 | .mov t::ms,.own k ver w::as=>match zc h k with
  | some (.arr ver' t' xs)=>match U.eqTy t' t with
   | some eq=>cond (Nat.beq ver ver') ((zaq C h ms as).bind fun r=>some ⟨⟨C.En.sl t,C.En.toSl t (zwo eq (zbu w xs))⟩::r.ds,r.ps,k::r.ks,r.bs,(k,.arr (ver+1) t [])::r.mv⟩) none
   | none=>none
  | _=>none
 | _,_=>none
def zmb (h:za U) (base:Nat) (owns:List Nat):Nat→List (AV U)→List (AV U)→Option (List (AV U) × za U)
 | _,_,[]=>some ([],[])
 | j,old,c::cs=>match owns.contains j,c,old.head? with
  | true,.lst t xs,some (.own k ver _)=>(zmb h base owns (j+1) old.tail cs).bind fun r=>some (.own k (ver+1) .full::r.1,(k,.arr (ver+1) t xs)::r.2)
  | true,.lst t xs,some (.sc (.slice none 0 0))=>match zc h (base+j)with
   | none=>(zmb h base owns (j+1) old.tail cs).bind fun r=>some (.own (base+j) 0 .full::r.1,(base+j,.arr 0 t xs)::r.2)
   | some _=>none
  | true,_,_=>none
  | false,_,_=>(zmb h base owns (j+1) old.tail cs).bind fun r=>some (c::r.1,r.2)
def zjs (C:Ctx U) (h:za U):List (Pl U)→List (Dyn U)→Option (za U)
 | [],[]=>some []
 | p::l,ds=>match p.write,ds with
  | false,ds=>zjs C h l ds
  | true,d::ds=>(d.as p.ty).bind fun x=>match zc h p.k with
   | some (.box cs)=>match zmb h (3000000+1000*p.k) p.owns 0 (cs.drop p.off) (C.En.enc p.ty x)with
    | some r=>(zjs C h l ds).bind fun q=>some ((p.k,.box (zkb cs p.off r.1))::(r.2++q))
    | none=>none
   | _=>none
  | true,[]=>none
 | [],_::_=>none
def zn5:za U→za U→za U
 | [],h=>h
 | (k,ob)::l,h=>zed (zn5 l h) k ob
def zyv:List (Pl U)→List U.Ty
 | []=>[]
 | p::l=>match p.write with
  | true=>p.ty::zyv l
  | false=>zyv l
def zb6 (C:Ctx U) (base:Nat) (fresh:List Nat):List (Dyn U)→Option (AV U × za U)
 | [d]=>match fresh with
  | []=>some (C.En.value d.ty d.val,[])
  | _=>(zih base fresh 0 (C.En.enc d.ty d.val)).bind fun r=>some (cond (C.En.agg d.ty) (.agg r.1) (r.1.headD .dead),r.2)
 | l=>match fresh with
  | []=>some (.tup (l.map fun d=>C.En.value d.ty d.val),[])
  | _=>none
def zum (l:List (AV U)):List Nat:=l.foldr (fun a acc=>zfl a++acc) []
def zio (k ver:Nat) (t:U.Ty) (xs:List (U.den t)):Nat→AV U→AV U
 | _,.own k' ver' w=>cond (Nat.beq k k') (cond (Nat.beq ver ver') (.lst t (zbu w xs)) .dead) (.own k' ver' w)
 | _,.eptr k' ver' i off=>cond (Nat.beq k k') .dead (.eptr k' ver' i off)
 | n+1,.agg cs=> .agg (cs.map (zio k ver t xs n))
 | n+1,.fn f cs=> .fn f (cs.map (zio k ver t xs n))
 | n+1,.tup cs=> .tup (cs.map (zio k ver t xs n))
 | 0,.agg _=> .dead
 | 0,.fn _ _=> .dead
 | 0,.tup _=> .dead
 | _,v=>v
def zwf (k ver:Nat) (t:U.Ty) (xs:List (U.den t)):Ob U→Ob U
 | .box cs=> .box (cs.map (zio k ver t xs 2))
 | o=>o
def zfo:List Nat→List (AV U)→za U→List (AV U) × za U
 | [],E,h=>(E,h)
 | k::l,E,h=>match zc h k with
  | some (.arr ver t xs)=>zfo l (E.map (zio k ver t xs 3)) ((zqt h k).map fun p=>(p.1,zwf k ver t xs p.2))
  | _=>zfo l E h
def zh8 (C:Ctx U) (T:TypeId):Option TypeId:=
 match C.P.underlying T with
 | some (.slice e)=>some e
 | _=>none
def zly (h:za U) (t:U.Ty) (a:AV U):Option (List (U.den t)):=
 match zem h a with
 | .lst t' xs=>(U.eqTy t' t).map fun e=>zwo e xs
 | .sc (.slice none 0 0)=>some []
 | _=>none
def zjc (s:ByteArray):List Int:=s.data.toList.map fun b=>(b.toNat:Int)
def zhq (l:List Int):ByteArray:=⟨(l.map fun n=>UInt8.ofNat n.toNat).toArray⟩
def zae:Nat:=2^46
def zh5 (C:Ctx U) (e:TypeId) (n:Nat):Bool:=
 match C.P.info? e with
 | some i=>(Nat.ble 1 i.bytes&&(match i.zero with|some z=>Nat.beq z.cells.size i.size|none=>false))&&Nat.ble (n*i.bytes) zae
 | none=>false
def zc4:AV U→List Nat
 | .ptr k _| .eptr k _ _ _| .ixp k _ _ _| .own k _ _=>[k]
 | _=>[]
def zdn:AV U→List Nat
 | .agg cs=>cs.flatMap zc4
 | .fn _ cs=>cs.flatMap zc4
 | .tup cs=>cs.flatMap zc4
 | v=>zc4 v
def zk8 (h:za U):List Nat→List Nat
 | []=>[]
 | k::l=>match zc h k with
  | some (.box cs)=>cs.flatMap zdn++zk8 h l
  | _=>zk8 h l
def zar (C:Ctx U) (o:Oper):Nat:=
 match o.op with
 | .move _| .assign _| .pick .. | .nilCheck _| .binOp .. | .unOp .. | .fieldAddr .. | .field .. | .index .. | .extract .. | .makeFunc .. | .build .. =>0
 | .convert s d _=>match C.P.underlying s,C.P.underlying d with
  | some (.int _),some (.int _)=>0
  | _,_=>1
 | .load .. | .slice .. | .indexAddr .. | .alloc _| .box .. | .buildSlice .. | .makeSlice .. =>1
 | .call c=>match c.callee with
  | .builtin .min| .builtin .max=>0
  | .builtin .len=>1
  | .value (.func f)=>match C.O f with
   | some ct=>cond (ct.outs.isEmpty&&zs4 ct.params) 1 2
   | none=>2
  | _=>2
 | _=>2
def zby (C:Ctx U) (E:List (AV U)) (h:za U) (o:Oper):List Nat:=
 match zar C o with
 | 0=>[]
 | _+1=>
  let ks:=o.op.operands.toList.flatMap fun x=>zdn (opv C E x)
  ks++(zk8 h ks++zk8 h (zk8 h ks))
section step
variable {R:Type}
abbrev K1 (U:Uni) (R:Type):=AV U→List (AV U)→za U→Option R
def zel (C:Ctx U) (t:TypeId):Option (List (AV U)):=
 match C.P.info? t with
 | some i=>i.zero.map fun v=>v.cells.toList.map .sc
 | none=>none
def zn2 (C:Ctx U) (e:TypeId) (t:U.Ty):Bool:=
 match zbh C e with
 | some s=>Nat.beq s (C.En.sz t)
 | none=>false
def zwa (C:Ctx U) (T:TypeId) (x:AV U) (i:AV U) (h:za U) (k:AV U→Option R):Option R:=
 match C.P.underlying T,x,i with
 | some (.slice e),.lst t xs,.sc (.int _ i)=>cond (zn2 C e t) ((idx xs i).bind fun x=>k (.rptr (C.En.enc t x))) none
 | some (.slice e),.own key ver .full,.sc (.int _ i)=>match zc h key with
  | some (.arr ver' t xs)=>cond (Nat.beq ver ver'&&zn2 C e t) (if 0≤i then(if i<(xs.length:Int)then k (.eptr key ver i.toNat 0)else none)else none) none
  | _=>none
 | some (.slice e),.own key ver (.suf off),.sc (.int _ i)=>match zc h key with
  | some (.arr ver' t xs)=>cond (Nat.beq ver ver'&&zn2 C e t) (if 0≤i then(if i<((xs.length-off:Nat):Int)then k (.eptr key ver (off+i.toNat) 0)else none)else none) none
  | _=>none
 | some (.array n e),.rarr t xs,.sc (.int _ i)=>match zbh C e with
  | some s=>cond (Nat.beq s (C.En.sz t)&&Nat.beq n xs.length) ((idx xs i).bind fun x=>k (.rptr (C.En.enc t x))) none
  | none=>none
 | some (.array n e),.ptr key off,.sc (.int _ i)=>match zbh C e with
  | some 1=>if 0≤i then(if i<(n:Int)then k (.ixp key off n i.toNat)else none)else none
  | _=>none
 | _,_,_=>none
def zqe (C:Ctx U) (T:TypeId) (a:AV U) (h:za U) (k:AV U→Option R):Option R:=
 match a with
 | .ixp key off n i=>match zc h key with
  | some (.box cs)=>match z6t (cs.drop off)with
   | some kd=>match zn8 kd ((cs.drop off).take n),zbh C T,zec C T with
    | some l,some 1,some false=>cond (Nat.beq l.length n) (k (.sc (.int kd (zbk l i)))) none
    | _,_,_=>none
   | none=>none
  | _=>none
 | a=>zj5 C h a fun cs=>(zog C T cs).bind k
def zz0 (C:Ctx U) (T:TypeId) (a v:AV U) (h:za U) (k:za U→Option R):Option R:=
 match zbh C T with
 | none=>none
 | some n=>cond (Nat.beq v.cells.length n&&v.cells.all AV.one) (match a with
  | .ptr key off=>match zc h key with
   | some (.box cs)=>cond (Nat.ble (off+n) cs.length&& !C.ro.contains key) (k (zed h key (.box (zkb cs off v.cells)))) none
   | _=>none
  | .eptr key ver i off=>match zc h key with
   | some (.arr ver' t xs)=>cond (Nat.beq ver ver'&&(Nat.ble (off+n) (C.En.sz t)&& !C.ro.contains key)) (xs[i]?.bind fun x=>
    (C.En.reify t (zkb (C.En.enc t x) off (v.cells.map (zem h)))).bind fun x'=>k (zed h key (.arr ver t (xs.set i x')))) none
   | _=>none
  | .ixp key off m i=>match v,zc h key with
   | .sc (.int kd z),some (.box cs)=>match zn8 kd ((cs.drop off).take m)with
    | some l=>cond (Nat.beq l.length m&& !C.ro.contains key) (k (zed h key (.box (zkb cs off (zsa kd z i 0 l))))) none
    | none=>none
   | _,_=>none
  | _=>none) none
def z5o (C:Ctx U) (T:TypeId) (x:AV U) (lo hi mx:Option (AV U)) (h:za U) (k:AV U→Option R):Option R:=
 match mx with
 | some _=>none
 | none=>
  match C.P.underlying T,x with
  | some .string,.sc (.string s)=>
   match hi,lo.getD (.sc (.int .i64 0))with
   | some (.sc (.int _ j)),.sc (.int _ i)=>if 0≤j∧j≤(s.size:Int)then(if 0≤i∧i≤j then k (.sc (.string (s.extract i.toNat j.toNat)))else none)else none
   | none,.sc (.int _ i)=>if 0≤i∧i≤(s.size:Int)then k (.sc (.string (s.extract i.toNat s.size)))else none
   | _,_=>none
  | some (.slice e),.lst t xs=>
   cond (zn2 C e t) (match hi,lo.getD (.sc (.int .i64 0))with
   | some (.sc (.int _ j)),.sc (.int _ i)=>if 0≤j∧j≤(xs.length:Int)then(if 0≤i∧i≤j then k (.lst t ((xs.take j.toNat).drop i.toNat))else none)else none
   | none,.sc (.int _ i)=>if 0≤i∧i≤(xs.length:Int)then k (.lst t (xs.drop i.toNat))else none
   | _,_=>none) none
  | some (.slice e),.own key ver .full=>match zc h key with
   | some (.arr ver' t xs)=>cond (Nat.beq ver ver'&&zn2 C e t) (
    match hi,lo.getD (.sc (.int .i64 0))with
    | some (.sc (.int _ j)),.sc (.int _ i)=>if 0≤j∧j≤(xs.length:Int)then(if 0≤i∧i≤j then k (.own key ver (.sub i.toNat (j.toNat-i.toNat)))else none)else none
    | none,.sc (.int _ i)=>if 0≤i∧i≤(xs.length:Int)then k (.own key ver (.suf i.toNat))else none
    | _,_=>none) none
   | _=>none
  | _,_=>none
def z2u (C:Ctx U) (dst:Nat) (T:TypeId) (x:AV U) (lo hi:Option (AV U)) (m:AV U) (h:za U) (k:AV U→za U→Option R):Option R:=
 match zh8 C T with
 | none=>none
 | some e=>match C.En.ofGo e,zc h dst,lo.getD (.sc (.int .i64 0)),hi,m with
  | some t,none,.sc (.int _ i),some (.sc (.int _ j)),.sc (.int _ n)=>if i=0 then(if j=0 then(if n=0 then
   cond (match x with| .lst _ _| .own _ _ _=>true|_=>false) (k (.own dst 0 .full) (zed h dst (.arr 0 t []))) none else none)else none)else none
  | _,_,_,_,_=>none
def zs9:AV U→Bool
 | .sc (.slice none 0 0)=>true
 | _=>false
def z3i (C:Ctx U) (dst:Nat) (T:TypeId) (x y:AV U) (h:za U) (k:AV U→za U→Option R):Option R:=
 match zh8 C T with
 | none=>none
 | some e=>match C.En.ofGo e,x with
  | some t,.sc (.slice none 0 0)=>match zc h dst with
   | none=>(zly h t y).bind fun ys=>cond (zh5 C e ys.length) (k (.own dst 0 .full) (zed h dst (.arr 0 t ys))) none
   | some _=>none
  | some t,.own key ver w=>match zc h key with
   | some (.arr ver' t' xs)=>match U.eqTy t t' with
    | some eq=>cond (Nat.beq ver ver'&& !C.ro.contains key) ((zly h t y).bind fun ys=>
     cond (zh5 C e ((zbu w xs).length+ys.length)) (k (.own key (ver+1) .full) (zed h key (.arr (ver+1) t' (zbu w xs++zwo eq ys)))) none) none
    | none=>none
   | _=>none
  | _,_=>none
def z3h (C:Ctx U) (dst:Nat) (T:TypeId) (x y:AV U) (h:za U) (k:AV U→za U→Option R):Option R:=
 match zh8 C T with
 | none=>none
 | some e=>match C.En.ofGo e,zel C e,zc h dst,y with
  | some t,some zs,none,.sc (.int .i64 n)=>cond (zs9 x) ((C.En.reify t zs).bind fun z=>if 0≤n then cond (zh5 C e n.toNat) (k (.own dst 0 .full) (zed h dst (.arr 0 t (List.replicate n.toNat z)))) none else none) none
  | _,_,_,_=>none
def eqL (C:Ctx U):Nat→TypeId→List (AV U)→List (AV U)→Option (List Bool)
 | 0,_,_,_=>none
 | n+1,t,xs,ys=>match C.P.underlying t with
  | some (.int _)=>match xs.head?,ys.head? with
   | some (.sc (.int k a)),some (.sc (.int k' b))=>if k=k' then some [a==b]else none
   | _,_=>none
  | some .bool=>match xs.head?,ys.head? with
   | some (.sc (.bool a)),some (.sc (.bool b))=>some [a==b]
   | _,_=>none
  | some .string=>match xs.head?,ys.head? with
   | some (.sc (.string a)),some (.sc (.string b))=>some [a==b]
   | _,_=>none
  | some (.struct fs)=>match zbh C t with
   | some sz=>cond (C.P.stoodInHeld t) none (fs.toList.foldr (fun f acc=>cond (f.name== "_") none
    (match zbh C f.type with
    | some s=>cond (Nat.ble (f.offset+s) sz&&Nat.ble 1 s) (match eqL C n f.type (xs.drop f.offset) (ys.drop f.offset),acc with
     | some a,some b=>some (a++b)
     | _,_=>none) none
    | none=>none)) (some []))
   | none=>none
  | _=>none
def zdq:List Bool→Bool
 | []=>true
 | b::l=>b&&zdq l
def z42 (C:Ctx U) (T:TypeId) (x y:List (AV U)):Option Bool:=
 match zec C T with
 | some true=>cond (C.P.eqGuardType C.P.depth T) none ((eqL C 12 T x y).map zdq)
 | _=>none
def binC (C:Ctx U) (o:BinOp) (T:TypeId) (x y:AV U) (other:Unit→Option R) (k:AV U→Option R):Option R:=
 match o,x,y with
 | .quo,.sc (.int kd a),.sc (.int kd' b)=>if kd=kd' then(if b=0 then none else k (.sc (.int kd (kd.wrap (a.tdiv b)))))else none
 | .rem,.sc (.int kd a),.sc (.int kd' b)=>if kd=kd' then(if b=0 then none else k (.sc (.int kd (a.tmod b))))else none
 | .shl,.sc (.int kd a),.sc (.int _ b)=>if b<0 then none else k (.sc (.int kd (kd.wrap (a*2^(min b.toNat kd.bits)))))
 | .shr,.sc (.int kd a),.sc (.int _ b)=>if b<0 then none else k (.sc (.int kd (a.fdiv (2^(min b.toNat kd.bits)))))
 | .add,.sc (.string a),.sc (.string b)=>if((a.size+b.size:Nat):Int)>IntKind.i64.max then none else k (.sc (.string (a++b)))
 | .eql,.agg cs,.agg ds=>match z42 C T cs ds with
  | some b=>k (.sc (.bool b))
  | none=>none
 | .neq,.agg cs,.agg ds=>match z42 C T cs ds with
  | some b=>k (.sc (.bool (!b)))
  | none=>none
 | _,_,_=>other ()
def zjf (C:Ctx U) (E:List (AV U)) (o:Oper) (k:AV U→Option R):Option R:=
 cond (o.op.operands.all fun x=>(opv C E x).toVal.isSome) (
  match zul C.P (execOp (fun x=>((opv C E x).toVal).getD undef) o)with
  | some (.value v)=>k (.ofVal v)
  | _=>none) none
def ztd (place:Nat→Option (Nat × Nat)):List (Nat × AV U)→List (AV U)→Option (List (AV U))
 | [],cs=>some cs
 | (i,v)::l,cs=>match place i with
  | some (off,s)=>cond (v.plain&&(Nat.beq s v.cells.length&&Nat.ble (off+s) cs.length)) (ztd place l (zkb cs off v.cells)) none
  | none=>none
def zu2 (C:Ctx U) (t:TypeId) (parts:List (Nat × AV U)) (k:AV U→Option R):Option R:=
 match C.P.underlying t,zel C t with
 | some (.struct fs),some zs=>
  cond (fs.toList.all fun f=>(zbh C f.type).isSome) (match ztd (fun i=>match fs[i]? with
   | some f=>(zbh C f.type).map fun s=>(f.offset,s)
   | none=>none) parts zs with
  | some cs=>k (.agg cs)
  | none=>none) none
 | some (.array _ e),some zs=>match zbh C e with
  | some s=>match ztd (fun i=>some (i*s,s)) parts zs with
   | some cs=>k (.agg cs)
   | none=>none
  | none=>none
 | _,_=>none
def zon (C:Ctx U) (h:za U) (t:U.Ty) (zs:List (AV U)):List (Nat × AV U)→Nat→Nat→Option (List (U.den t))
 | _,_,0=>some []
 | parts,i,n+1=>(match parts.find? (fun(p:Nat × AV U)=>Nat.beq p.1 i)with
  | some (_,v)=>zkd C h t v
  | none=>C.En.reify t zs).bind fun x=>(zon C h t zs parts (i+1) n).bind fun l=>some (x::l)
def zgh:List (Nat × AV U)→Bool
 | []=>true
 | (i,_)::l=>(l.all fun(p:Nat × AV U)=> !Nat.beq p.1 i)&&zgh l
def zci (C:Ctx U):Nat→List (Md U)→List (Dyn U)→Option (List (AV U) × za U)
 | _,[],[]=>some ([],[])
 | j,.val t::ms,d::ds=>(d.as t).bind fun x=>(zci C j ms ds).bind fun r=>some (C.En.value t x::r.1,r.2)
 | j,.ptr t _ owns::ms,d::ds=>(d.as t).bind fun x=>(zci C (j+1) ms ds).bind fun r=>match zih (2000000+1000*j) owns 0 (C.En.enc t x)with
  | some o=>some (.ptr (1000000+j) 0::r.1,(1000000+j,.box o.1)::(o.2++r.2))
  | none=>none
 | j,.clo f n::ms,ds=>(zci C j ms ds).bind fun r=>some (.fn f (r.1.take n)::r.1.drop n,r.2)
 | j,.bclo t f n::ms,ds=>(zci C (j+1) ms ds).bind fun r=>some (.ptr (1000000+j) 0::r.1.drop n,(1000000+j,.box [.fn f (r.1.take n)])::r.2)
 | j,.mov t::ms,d::ds=>(d.as (C.En.sl t)).bind fun x=>(zci C j ms ds).bind fun r=>some (.own (6000000+ms.length) 0 .full::r.1,(6000000+ms.length,.arr 0 t (C.En.ofSl t x))::r.2)
 | _,_,_=>none
def zcn:Nat→List (Md U)→List Nat
 | _,[]=>[]
 | j,.ptr _ false _::ms=>(1000000+j)::zcn (j+1) ms
 | j,.ptr _ true _::ms=>zcn (j+1) ms
 | j,.bclo _ _ _::ms=>(1000000+j)::zcn (j+1) ms
 | j,_::ms=>zcn j ms
def zhf (C:Ctx U):Nat→List (Pl U)→List (Dyn U)→Option (za U)
 | _,[],[]=>some []
 | j,p::ps,ds=>match p.write,ds with
  | true,d::ds=>(d.as p.ty).bind fun x=>(zih (2000000+1000*j) p.owns 0 (C.En.enc p.ty x)).bind fun o=>(zhf C (j+1) ps ds).bind fun r=>some ((1000000+j,.box o.1)::(o.2++r))
  | true,[]=>none
  | false,ds=>zhf C (j+1) ps ds
 | _,[],_::_=>none
def zmg:List (Md U)→List (Pl U)
 | []=>[]
 | .ptr t wr owns::ms=>⟨0,0,t,wr,owns⟩::zmg ms
 | .bclo t _ _::ms=>⟨0,0,t,false,[]⟩::zmg ms
 | _::ms=>zmg ms
def zmp (C:Ctx U) (ms:List (Md U)) (ds:List (Dyn U)):Option (List (AV U) × za U):=(zci C 0 ms ds).bind fun r=>cond (zh0 (r.2.map (·.1))) (some r) none
def zu0 (C:Ctx U) (ct:Ct U) (fp:List Nat) (c:Coll U):Bool:=
 zh0 (c.ps.map (·.k)++c.ks)&&((c.bs.all fun k=> !(c.ps.map (·.k)++c.ks).contains k)&&(((c.ps.map (·.k)++(c.ks++c.bs)).all fun k=>fp.contains k)&&
  ((c.ps.all fun p=>cond p.write (!C.ro.contains p.k) p.owns.isEmpty)&&((c.ks.all fun k=> !C.ro.contains k)&&(Nat.beq ct.outs.length (zyv c.ps).length&&(((ct.results++ct.outs).all C.En.flat||c.bs.isEmpty)&&(zmp C ct.params c.ds).isSome))))))
def zabj (C:Ctx U) (dst:Nat) (f:FuncId) (fp:List Nat) (args:List (AV U)) (h:za U) (k:AV U→za U→Option R):Option R:=
 match C.O f with
 | none=>none
 | some ct=>match zaq C h ct.params args with
  | none=>none
  | some c=>cond (zu0 C ct fp c) (
   (ct.fn c.ds).bind fun y=>
    match zjs C h c.ps ((zen U (ct.results++ct.outs) y).drop ct.results.length)with
    | none=>none
    | some q=>match zb6 C (10000*(dst+1)) (cond (C.lits.contains dst) [] ct.fresh) ((zen U (ct.results++ct.outs) y).take ct.results.length)with
     | none=>none
     | some r=>cond (zh0 (((q++r.2)++c.mv).map (·.1))&&r.2.all fun p=>(zc h p.1).isNone) (k r.1 (zn5 ((q++r.2)++c.mv) h)) none) none
def z0q (C:Ctx U) (h:za U):List (Md U)→List (AV U)→List Nat
 | .val _::ms,a::as=>zfl a++z0q C h ms as
 | .mov _::ms,_::as=>z0q C h ms as
 | .ptr t _ owns::ms,.ptr k off::as=>match zc h k with
  | some (.box cs)=>zgf owns 0 ((cs.drop off).take (C.En.sz t))++z0q C h ms as
  | _=>z0q C h ms as
 | .clo _ _::ms,.fn _ caps::as=>z0q C h ms (caps++as)
 | .bclo _ _ _::ms,.ptr k off::as=>match zc h k with
  | some (.box cs)=>match cs.drop off with
   | .fn _ caps::_=>z0q C h ms (caps++as)
   | _=>[]
  | _=>[]
 | _,_=>[]
def zlp (C:Ctx U) (E:List (AV U)) (h:za U) (o:Oper):List Nat:=
 match o.op with
 | .buildSlice _ _ parts=>zum (parts.toList.map fun p=>opv C E p.2)
 | .store _ a x=>match opv C E a with
  | .eptr _ _ _ _=>zfl (opv C E x)
  | _=>[]
 | .call c=>match c.callee with
  | .value f=>match opv C E f with
   | .fn g caps=>match C.O g with
    | some ct=>cond ((ct.results++ct.outs).all C.En.flat) [] (z0q C h ct.params (c.args.toList.map (opv C E)++caps))
    | none=>[]
   | _=>[]
  | _=>[]
 | _=>[]
def z2i (C:Ctx U) (E:List (AV U)) (h:za U) (o:Oper) (k:AV U→za U→Option R):Option R:=
 let dst:=o.dst.getD 0
 let kk (v:AV U):Option R:=k v h
 match o.op with
 | .move x| .assign x=>match opv C E x with
  | .dead=>none
  | v=>kk v
 | .pick c a b=>match opv C E c,opv C E a,opv C E b with
  | .sc (.bool c),.sc (.bool a),.sc (.bool b)=>kk (.sc (.bool (cond c a b)))
  | _,_,_=>none
 | .alloc T=>match zc h dst,zel C T with
  | none,some zs=>k (.ptr dst 0) (zed h dst (.box zs))
  | _,_=>none
 | .box T x=>match zc h dst with
  | none=>cond (opv C E x).plain (k (.ptr dst 0) (zed h dst (.box (opv C E x).cells))) none
  | some _=>none
 | .build t parts=>zu2 C t (parts.toList.map fun p=>(p.1,opv C E p.2)) kk
 | .buildSlice t len parts=>match zh8 C t with
  | none=>none
  | some e=>match C.En.ofGo e,zel C e,zc h dst with
   | some t,some zs,none=>
    let ps:=parts.toList.map fun p=>(p.1,opv C E p.2)
    cond (zgh ps&&ps.all (fun p=>Nat.ble (p.1+1) len)&&Nat.ble (len*C.En.sz t) (2^24)) ((zon C h t zs ps 0 len).bind fun xs=>
     cond (C.lits.contains dst) (kk (.lst t xs)) (k (.own dst 0 .full) (zed h dst (.arr 0 t xs)))) none
   | _,_,_=>none
 | .load T a=>zqe C T (opv C E a) h kk
 | .store T a x=>zz0 C T (opv C E a) (opv C E x) h fun h'=>k .dead h'
 | .nilCheck x=>match opv C E x with
  | .ptr a b=>kk (.ptr a b)
  | .eptr a b c d=>kk (.eptr a b c d)
  | .ixp a b c d=>kk (.ixp a b c d)
  | .rptr cs=>kk (.rptr cs)
  | .rarr t xs=>kk (.rarr t xs)
  | .fn f cs=>kk (.fn f cs)
  | _=>none
 | .binOp op T x y _=>binC C op T (opv C E x) (opv C E y) (fun _=>zjf C E o kk) kk
 | .unOp .. =>zjf C E o kk
 | .convert src d x=>match C.P.underlying src,C.P.underlying d,opv C E x with
  | some (.slice e),some .string,v=>match C.P.underlying e with
   | some (.int .u8)=>(zly h C.En.u8 v).bind fun xs=>kk (.sc (.string (zhq (C.En.toInts xs))))
   | _=>none
  | some .string,some (.slice e),.sc (.string s)=>match C.P.underlying e,zc h dst with
   | some (.int .u8),none=>k (.own dst 0 .full) (zed h dst (.arr 0 C.En.u8 (C.En.ofInts (zjc s))))
   | _,_=>none
  | _,_,_=>zjf C E o kk
 | .makeFunc (.func f) first caps=>match first.toList with
  | []=>kk (.fn f (caps.toList.map (opv C E)))
  | _=>none
 | .makeSlice T len cap=>match zh8 C T with
  | none=>none
  | some e=>match C.En.ofGo e,zel C e,zc h dst,opv C E len,opv C E cap with
   | some t,some zs,none,.sc (.int .i64 n),.sc (.int .i64 m)=>(C.En.reify t zs).bind fun z=>
    if 0≤n then(if n≤m then(cond (zh5 C e m.toNat) (k (.own dst 0 .full) (zed h dst (.arr 0 t (List.replicate n.toNat z)))) none)else none)else none
   | _,_,_,_,_=>none
 | .slice T x lo hi mx=>match mx with
  | some m=>cond (zs9 (opv C E x)) (zjf C E o kk) (z2u C dst T (opv C E x) (lo.map (opv C E)) (hi.map (opv C E)) (opv C E m) h k)
  | none=>cond (zs9 (opv C E x)) (zjf C E o kk) (z5o C T (opv C E x) (lo.map (opv C E)) (hi.map (opv C E)) none h kk)
 | .fieldAddr s x f=>match zqh C s f with
  | some n=>(zad0 n (opv C E x)).bind kk
  | none=>none
 | .field s x f=>match zqh C s f,opv C E x,C.P.underlying s with
  | some n,.agg cs,some (.struct fs)=>match fs[f]? with
   | some fd=>(zog C fd.type (cs.drop n)).bind kk
   | none=>none
  | _,_,_=>none
 | .indexAddr T x i=>zwa C T (opv C E x) (opv C E i) h kk
 | .index T x i=>match C.P.underlying T,opv C E x,opv C E i with
  | some .string,.sc (.string s),.sc (.int _ i)=>(znh s i).bind fun b=>kk (.sc (.int .u8 b.toNat))
  | some (.array n e),.agg cs,.sc (.int _ i)=>match zbh C e,zec C e,z6t cs with
   | some 1,some false,some kd=>match zn8 kd cs with
    | some l=>cond (Nat.beq l.length n) (if 0≤i then(if i<(n:Int)then kk (.sc (.int kd (zbk l i.toNat)))else none)else none) none
    | none=>none
   | _,_,_=>none
  | _,_,_=>none
 | .extract t i=>match opv C E t with
  | .tup vs=>match vs[i]? with
   | some .dead=>none
   | some v=>kk v
   | none=>none
  | .sc (.tuple vs)=>zjf C E o kk
  | _=>none
 | .call c=>match c.callee with
  | .builtin .len=>match c.args.toList,c.argTypes.toList with
   | [x],[T]=>match opv C E x,zh8 C T with
    | .lst _ xs,some _=>kk (.sc (.int .i64 xs.length))
    | .own key ver w,some _=>match zc h key with
     | some (.arr ver' _ xs)=>cond (Nat.beq ver ver') (match w with| .full=>kk (.sc (.int .i64 xs.length))| .suf i=>kk (.sc (.int .i64 ((xs.length-i:Nat):Int)))| .sub _ n=>kk (.sc (.int .i64 n))) none
     | _=>none
    | _,_=>zjf C E o kk
   | _,_=>none
  | .builtin .append=>match c.args.toList,c.argTypes.toList with
   | [x,y],[T,T']=>match zh8 C T' with
    | some _=>z3i C dst T (opv C E x) (opv C E y) h k
    | none=>match C.P.underlying T' with
     | some (.int _)=>z3h C dst T (opv C E x) (opv C E y) h k
     | _=>none
   | _,_=>none
  | .builtin .clear=>match c.args.toList,c.argTypes.toList with
   | [x],[T]=>match zh8 C T,opv C E x with
    | some e,.own key ver w=>match zc h key,zel C e with
     | some (.arr ver' t xs),some zs=>cond (Nat.beq ver ver'&&(zn2 C e t&& !C.ro.contains key)) ((C.En.reify t zs).bind fun z=>
      k (.tup []) (zed h key (.arr ver' t (match w with
       | .full=>List.replicate xs.length z
       | .suf off=>xs.take off++List.replicate (xs.length-off) z
       | .sub off n=>xs.take off++List.replicate n z++xs.drop (off+n))))) none
     | _,_=>none
    | _,_=>none
   | _,_=>none
  | .builtin .copy=>match c.args.toList,c.argTypes.toList with
   | [x,y],[T,T']=>match zh8 C T,zh8 C T',opv C E x with
    | some e,some _,.own key ver w=>match zc h key with
     | some (.arr ver' t xs)=>cond (Nat.beq ver ver'&&(zn2 C e t&&(Nat.beq (C.En.sz t) 1&& !C.ro.contains key))) ((zly h t (opv C E y)).bind fun ys=>
      k (.sc (.int .i64 ((min ys.length (w.len xs.length):Nat):Int))) (zed h key (.arr ver' t (match w with
       | .full=>ys.take (min ys.length xs.length)++xs.drop (min ys.length xs.length)
       | .suf off=>xs.take off++ys.take (min ys.length (xs.length-off))++xs.drop (off+min ys.length (xs.length-off))
       | .sub off n=>xs.take off++ys.take (min ys.length n)++xs.drop (off+min ys.length n))))) none
     | _=>none
    | _,_,_=>none
   | _,_=>none
  | .builtin .min| .builtin .max=>zjf C E o kk
  | .builtin .cap=>match c.args.toList with
   | [x]=>cond (zs9 (opv C E x)) (zjf C E o kk) none
   | _=>none
  | .builtin _=>none
  | .value f=>match opv C E f with
   | .fn f caps=>match C.X f,c.args.toList.map (opv C E)++caps with
    | some 0,[.sc (.int .u64 x),.sc (.int .u64 y),.sc (.int .u64 c)]=>if c.toNat>1 then none else
     kk (.tup [.sc (.int .u64 ((((x.toNat+y.toNat+c.toNat)%2^64:Nat)):Int)),.sc (.int .u64 ((((x.toNat+y.toNat+c.toNat)/2^64:Nat)):Int))])
    | some 1,[.sc (.int .u64 x),.sc (.int .u64 y),.sc (.int .u64 c)]=>if c.toNat>1 then none else
     kk (.tup [.sc (.int .u64 ((((x.toNat+2^64-y.toNat-c.toNat)%2^64:Nat)):Int)),.sc (.int .u64 ((((if x.toNat<y.toNat+c.toNat then 1 else 0:Nat))):Int))])
    | some 2,[.sc (.string x),.sc (.string y)]=>kk (.sc (.int .i64 (Extern.BytealgCompare.cmp x y)))
    | _,_=>zabj C dst f (zby C E h o) (c.args.toList.map (opv C E)++caps) h k
   | _=>none
  | .invoke _ _=>none
 | _=>none
def z1c (C:Ctx U) (strict:Bool) (E:List (AV U)) (h:za U) (o:Oper) (k:K1 U R):Option R:=
 cond strict
  (cond (zlp C E h o).isEmpty (z2i C E h o fun v h'=>k v E h') none)
  (cond (zlp C (zfo (zlp C E h o) E h).1 (zfo (zlp C E h o) E h).2 o).isEmpty
   (z2i C (zfo (zlp C E h o) E h).1 (zfo (zlp C E h o) E h).2 o fun v h'=>k v (zfo (zlp C E h o) E h).1 h') none)
end step
def zd0 (E:List (AV U)) (dst:Option Tmp) (v:AV U):List (AV U):=
 match dst with
 | some d=>E.set d v
 | none=>E
def zkq (l:List Oper) (E:List (AV U)):List (AV U):=l.foldl (fun E o=>zd0 E o.dst .dead) E
def zoy (d:Tmp):List Oper→Option (List Oper × Oper × Operand × Operand × List Oper)
 | []=>none
 | o::l=>match o.op with
  | .pick (.tmp d') a b=>cond (Nat.beq d d') (some ([],o,a,b,l)) ((zoy d l).map fun r=>(o::r.1,r.2))
  | _=>(zoy d l).map fun r=>(o::r.1,r.2)
def zj1 (C:Ctx U) (o:Oper):Bool:=
 match o.op with
 | .slice _ _ _ _ mx=>mx.isNone
 | .move _| .assign _| .pick .. | .load .. | .nilCheck _| .binOp .. | .unOp .. | .fieldAddr .. | .field .. | .indexAddr .. | .index .. | .extract .. | .build .. | .makeFunc .. =>true
 | .buildSlice .. =>C.lits.contains (o.dst.getD 0)
 | .convert s d _=>match C.P.underlying s,C.P.underlying d with
  | some (.int _),some (.int _)=>true
  | some (.slice _),some .string=>true
  | _,_=>false
 | .call c=>match c.callee with
  | .builtin .len| .builtin .min| .builtin .max=>true
  | .value (.func f)=>match C.O f with
   | some ct=>(ct.outs.isEmpty&&zs4 ct.params)&&(ct.fresh.isEmpty||C.lits.contains (o.dst.getD 0))
   | none=>false
  | _=>false
 | _=>false
def bit (n:Nat):Nat:=Nat.shiftLeft 1 n
def zlq:List Operand→Nat
 | []=>0
 | .tmp t::l=>Nat.lor (bit t) (zlq l)
 | _::l=>zlq l
def zmw (o:Oper):Nat:=match o.dst with|some d=>bit d|none=>0
def zlj (all:Array Oper) (o:Oper):Nat:=
 Nat.lor (zlq o.op.operands.toList) (match o.guard with|some (g,_)=>(match(all[g]?).bind (·.dst)with|some d=>bit d|none=>0)|none=>0)
structure Row where
 before:Nat
 dst:Nat
 look:Nat
 cls:Nat
 keys:List Nat
 top:Bool
def zqj (seen:List Row) (o:Oper):Nat:=
 o.after.toList.foldl (fun m e=>cond (Region.binds .any e) (Nat.lor m (Nat.lor (bit e.on) (match seen[e.on]? with|some r=>r.before|none=>0))) m) 0
def zacf (C:Ctx U) (all:Array Oper) (seen:List Row) (E:List (AV U)) (h:za U) (o:Oper):Row:=
 let c:=zar C o
 ⟨zqj seen o,zmw o,zlj all o,c,zby C E h o,false⟩
def zace (C:Ctx U) (all:Array Oper) (seen:List Row) (o:Oper):Row:=
 ⟨zqj seen o,zmw o,zlj all o,zar C o,[],true⟩
def meets (x y:Row):Bool:=x.top||y.top||x.keys.any fun k=>y.keys.contains k
def zx0 (i:Nat) (x y:Row):Bool:=
 Nat.testBit y.before i||
 (Nat.beq (Nat.land x.dst (Nat.lor y.dst y.look)) 0&&Nat.beq (Nat.land y.dst x.look) 0&&
  !((Nat.beq x.cls 2&& !Nat.beq y.cls 0||Nat.beq y.cls 2&& !Nat.beq x.cls 0)&&meets x y))
def zyy (y:Row):Nat→List Row→Bool
 | _,[]=>true
 | i,x::l=>zx0 i x y&&zyy y (i+1) l
def zo7:Nat→List Oper→Bool
 | _,[]=>true
 | i,o::l=>o.after.toList.all (fun e=> !Region.binds .any e||Nat.blt e.on i)&&
  (match o.guard with|none=>true|some (g,_)=>o.after.toList.any fun e=>Region.binds .any e&&Nat.beq e.on g)&&zo7 (i+1) l
def z7y (C:Ctx U) (ops:Array Oper):Bool:=C.P.follows .mixedOrders&&zo7 0 ops.toList
section run
def znm (C:Ctx U) (E:List (AV U)) (x:Operand):Option Bool:=
 match opv C E x with
 | .sc (.bool b)=>some b
 | _=>none
def zo5 (g:Option (Nat × Bool)) (i:Nat) (w:Bool):Bool:=
 match g with
 | some (j,v)=>Nat.beq i j&&(v==w)
 | none=>false
def zxn (draw:Bool) (seen:List Row) (r:Row):Option (List Row):=cond draw (cond (zyy r 0 seen) (some (seen++[r])) none) (some seen)
def zyx (C:Ctx U) (draw:Bool) (all:Array Oper):List Row→List Oper→Option (List Row)
 | seen,[]=>some seen
 | seen,o::l=>(zxn draw seen (zace C all seen o)).bind fun s=>zyx C draw all s l
def zxl (all:Array Oper) (g:Nat) (want:Bool):List Nat→List Oper→Bool
 | _,[]=>true
 | us,o::l=>match o.guard with
  | some (g',w')=>(zo5 (some (g,want)) g' w'||(match(all[g']?).bind (·.dst)with|some d'=>us.contains d'|none=>false))&&
   zxl all g want (match o.dst with|some x=>x::us|none=>us) l
  | none=>false
def z6g (under:Option (Nat × Bool)) (p:Oper):Bool:=
 match p.guard with
 | none=>true
 | some (g,w)=>zo5 under g w
def zej (C:Ctx U) (draw strict:Bool) (all:Array Oper):Nat→Option (Nat × Bool)→List Row→List Oper→List (AV U)→za U→{R:Type}→(List (AV U)→za U→Option R)→Option R
 | 0,_,_,_,_,_,_,_=>none
 | _+1,_,_,[],E,h,_,k=>k E h
 | n+1,under,seen,o::l,E,h,_,k=>
  match o.guard with
  | none=>match cond (!strict||(zby C E h o).all fun k=>(zc h k).isSome) (zxn draw seen (zacf C all seen E h o)) none with
   | some seen=>z1c C strict E h o fun v E' h'=>zej C draw strict all n under seen l (zd0 E' o.dst v) h' k
   | none=>none
  | some (g,want)=>cond (zo5 under g want) (cond (!strict||(zby C E h o).all fun k=>(zc h k).isSome) (z1c C strict E h o fun v E' h'=>zej C draw strict all n under seen l (zd0 E' o.dst v) h' k) none)
   (match(all[g]?).bind (·.dst)with
   | none=>none
   | some d=>match E.getD d .dead with
    | .sc (.bool b)=>match zoy d (o::l)with
     | some (grp,p,a,c,rest)=>match cond (((grp++[p]).all fun o'=>match o'.dst with|some x=> !Nat.beq x d|none=>true)&&(zxl all g want [] grp&&z6g under p)) (zyx C draw all seen (grp++[p])) none with
      | some seen'=>cond (grp.all (zj1 C))
       ((match want,a,c with
        | false,.const (.bool true),c=>cond b (some true) (zej C false true all n (some (g,want)) [] grp E h fun E' _=>znm C E' c)
        | true,a,.const (.bool false)=>cond b (zej C false true all n (some (g,want)) [] grp E h fun E' _=>znm C E' a) (some false)
        | _,_,_=>none).bind fun r=>zej C draw strict all n under seen' rest (zd0 (zkq grp E) p.dst (.sc (.bool r))) h k)
       (match want,a,c with
        | false,.const (.bool true),c=>cond b (zej C draw strict all n under seen' rest (zd0 (zkq grp E) p.dst (.sc (.bool true))) h k)
         (zej C false strict all n (some (g,want)) [] grp E h fun E' h'=>(znm C E' c).bind fun r=>zej C draw strict all n under seen' rest (zd0 E' p.dst (.sc (.bool r))) h' k)
        | true,a,.const (.bool false)=>cond b (zej C false strict all n (some (g,want)) [] grp E h fun E' h'=>(znm C E' a).bind fun r=>zej C draw strict all n under seen' rest (zd0 E' p.dst (.sc (.bool r))) h' k)
         (zej C draw strict all n under seen' rest (zd0 (zkq grp E) p.dst (.sc (.bool false))) h k)
        | _,_,_=>none)
      | none=>none
     | none=>none
    | _=>none)
def zcx (C:Ctx U) (E:List (AV U)) (h:za U):List (Nat × zkr U)→Option (List (Dyn U) × List Nat)
 | []=>some ([],[])
 | (i,.val t)::l=>(zkd C h t (E.getD i .dead)).bind fun x=>(zcx C E h l).bind fun r=>some (⟨t,x⟩::r.1,r.2)
 | (i,.ptr k off)::l=>match E.getD i .dead with
  | .ptr k' off'=>cond (Nat.beq k k'&&Nat.beq off off') (zcx C E h l) none
  | _=>none
 | (i,.own k t)::l=>match E.getD i .dead with
  | .own k' ver w=>match zc h k' with
   | some (.arr ver' t' xs)=>match U.eqTy t' t with
    | some eq=>cond (Nat.beq ver ver') ((zcx C E h l).bind fun r=>some (⟨C.En.sl t,C.En.toSl t (zwo eq (zbu w xs))⟩::r.1,k'::r.2)) none
    | none=>none
   | _=>none
  | .sc (.slice none 0 0)=>(zcx C E h l).bind fun r=>some (⟨C.En.sl t,C.En.toSl t []⟩::r.1,r.2)
  | _=>none
 | (i,.same j)::l=>match E.getD i .dead,E.getD j .dead with
  | .own k ver .full,.own k' ver' .full=>cond (Nat.beq k k'&&Nat.beq ver ver') (zcx C E h l) none
  | .sc (.slice none 0 0),.sc (.slice none 0 0)=>zcx C E h l
  | _,_=>none
 | (i,.view j k t)::l=>match E.getD i .dead,E.getD j .dead with
  | .own k1 ver (.suf off),.own k2 ver2 .full=>match zc h k1 with
   | some (.arr ver' t' xs)=>match U.eqTy t' t with
    | some eq=>cond ((Nat.beq k1 k2&&Nat.beq ver ver2&&Nat.beq ver ver')&&l.all fun p=> !p.2.isBox) ((zcx C E h l).bind fun r=>some (⟨C.En.sl t,C.En.toSl t (zwo eq (xs.take off))⟩::r.1,r.2)) none
    | none=>none
   | _=>none
  | _,_=>none
 | (i,.ofbox s k j)::l=>match E.getD i .dead,E.getD s .dead,zc h k with
  | .own k1 ver .full,.ptr k2 _,some (.box cs)=>match cs[j]?,zc h k1 with
   | some (.own k3 ver2 .full),some (.arr ver' _ _)=>cond ((Nat.beq k1 k3&&Nat.beq k k2)&&(Nat.beq ver ver2&&Nat.beq ver ver')) (zcx C E h l) none
   | _,_=>none
  | _,_,_=>none
 | (i,.fn f ks)::l=>match E.getD i .dead with
  | .fn g caps=>cond (Nat.beq f g&&Nat.beq caps.length ks.length&&((caps.zip ks).all fun(p:AV U × Nat)=>match p.1 with| .ptr k 0=>Nat.beq k p.2|_=>false)) (zcx C E h l) none
  | _=>none
def zov (C:Ctx U) (h:za U):List (Nat × U.Ty × List Nat)→Option (List (Dyn U) × List Nat)
 | []=>some ([],[])
 | (k,t,owns)::l=>match zc h k with
  | some (.box cs)=>(C.En.reify t (cs.map (zem h))).bind fun x=>match ze4 h owns 0 cs with
   | some ks=>(zov C h l).bind fun r=>some (⟨t,x⟩::r.1,ks++r.2)
   | none=>none
  | _=>none
def zii (E:List (AV U)):List (Nat × zkr U)→List Nat
 | []=>[]
 | (i,.val _)::l=>zfl (E.getD i .dead)++zii E l
 | _::l=>zii E l
def zlz (h:za U):List (Nat × U.Ty × List Nat)→List Nat
 | []=>[]
 | (k,_,owns)::l=>match zc h k with
  | some (.box cs)=>zgf owns 0 cs++zlz h l
  | _=>zlz h l
def z9x (caps:List (AV U)) (ks:List Nat):Bool:=Nat.beq caps.length ks.length&&(caps.zip ks).all fun(p:AV U × Nat)=>match p.1 with| .ptr k 0=>Nat.beq k p.2|_=>false
def fbOk (h:za U) (l:List (Nat × FuncId × List Nat)):Bool:=l.all fun b=>match zc h b.1 with
 | some (.box [.fn g caps])=>Nat.beq b.2.1 g&&z9x caps b.2.2
 | _=>false
def z0x (l:List (Nat × FuncId × List Nat)):za U:=l.map fun b=>(b.1,.box [.fn b.2.1 (b.2.2.map fun k=> .ptr k 0)])
def dec (C:Ctx U) (sp:Spec U) (E:List (AV U)) (h:za U):Option (List (Dyn U)):=
 (zcx C E h sp.slots).bind fun a=>(zov C h sp.boxes).bind fun b=>
  cond (fbOk h sp.fboxes&&(zh0 (a.2++b.2)&&(zii E sp.slots++zlz h sp.boxes).all fun k=> !(a.2++b.2).contains k)) (some (a.1++b.1)) none
def zdw (C:Ctx U) (n:Nat):List (Nat × zkr U)→List (Dyn U)→Option (List (AV U) × za U × List (Dyn U))
 | [],ds=>some (List.replicate n .dead,[],ds)
 | (i,.val t)::l,d::ds=>(d.as t).bind fun x=>(zdw C n l ds).bind fun r=>some (r.1.set i (C.En.value t x),r.2)
 | (i,.ptr k off)::l,ds=>(zdw C n l ds).bind fun r=>some (r.1.set i (.ptr k off),r.2)
 | (i,.own k t)::l,d::ds=>(d.as (C.En.sl t)).bind fun x=>(zdw C n l ds).bind fun r=>some (r.1.set i (.own k 0 .full),(k,.arr 0 t (C.En.ofSl t x))::r.2.1,r.2.2)
 | (i,.same j)::l,ds=>(zdw C n l ds).bind fun r=>some (r.1.set i (r.1.getD j .dead),r.2)
 | (i,.view j k t)::l,d::ds=>(d.as (C.En.sl t)).bind fun x=>(zdw C n l ds).bind fun r=>match r.1.getD j .dead with
  | .own k' 0 .full=>cond (Nat.beq k k') (some (r.1.set i (.own k 0 (.suf (C.En.ofSl t x).length)),r.2)) none
  | _=>none
 | (i,.ofbox _ k j)::l,ds=>(zdw C n l ds).bind fun r=>some (r.1.set i (.own (4000000+1000*k+j) 0 .full),r.2)
 | (i,.fn f ks)::l,ds=>(zdw C n l ds).bind fun r=>some (r.1.set i (.fn f (ks.map fun k=> .ptr k 0)),r.2)
 | _,[]=>none
def zwi (C:Ctx U):List (Nat × U.Ty × List Nat)→List (Dyn U)→Option (za U)
 | [],[]=>some []
 | (k,t,owns)::l,d::ds=>(d.as t).bind fun x=>match zih (4000000+1000*k) owns 0 (C.En.enc t x)with
  | some r=>(zwi C l ds).bind fun h=>some ((k,.box r.1)::(r.2++h))
  | none=>none
 | _,_=>none
def zac4 (l:List (Nat × U.Ty × List Nat)) (k:Nat):Bool:=l.any fun b=>Nat.beq b.1 k
def z3a (sp:Spec U) (k:Nat):Bool:=zac4 sp.boxes k||sp.fboxes.any fun b=>Nat.beq b.1 k
def zab5 (C:Ctx U) (sp:Spec U):Bool:=
 (C.pk.all (z3a sp)&&sp.fboxes.all fun b=>b.2.2.all (z3a sp))&&sp.slots.all fun s=>match s.2 with
  | .ptr k _=>z3a sp k
  | .ofbox _ k j=>sp.boxes.any fun b=>Nat.beq b.1 k&&b.2.2.contains j
  | .fn _ ks=>ks.all (z3a sp)
  | _=>true
def znk (C:Ctx U) (sp:Spec U) (n:Nat) (ds:List (Dyn U)):Option (List (AV U) × za U):=
 (zdw C n sp.slots ds).bind fun r=>(zwi C sp.boxes r.2.2).bind fun h=>
  cond (zab5 C sp&&zh0 ((r.2.1++(h++z0x (U:=U) sp.fboxes)).map (·.1))) (some (r.1,r.2.1++(h++z0x (U:=U) sp.fboxes))) none
structure Kont (U:Uni) (R0 R:Type) where
 norm:List (AV U)→za U→Option R
 exit:Nat→List (AV U)→za U→Option R
 ret:List (AV U)→za U→Option R
 res:R0→Option R
def zqu:Code→Option Nat
 | .region id _ _=>some id
 | .seq a _=>zqu a
 | .block _ a=>zqu a
 | .loop a=>zqu a
 | _=>none
def znc (C:Ctx U):Code→Bool
 | .skip=>true
 | .region _ ops false=>ops.toList.all (zj1 C)
 | .seq a b=>znc C a&&znc C b
 | .cond _ a b=>znc C a&&znc C b
 | _=>false
def zs0:Code→List Nat
 | .region _ ops _=>ops.toList.filterMap (·.dst)
 | .seq a b=>zs0 a++zs0 b
 | .cond _ a b=>zs0 a++zs0 b
 | _=>[]
def zv7 (l:List Nat) (E:List (AV U)):List (AV U):=l.foldl (fun E t=>E.set t .dead) E
def zoq (C:Ctx U):Code→List (AV U)→za U→{R:Type}→(List (AV U)→Option R)→Option R
 | .skip,E,_,_,k=>k E
 | .region _ ops false,E,h,_,k=>zej C false true ops (ops.size+1) none [] ops.toList E h fun E' _=>k E'
 | .seq a b,E,h,_,k=>zoq C a E h fun E'=>zoq C b E' h k
 | .cond c a b,E,h,_,k=>match opv C E c with
  | .sc (.bool t)=>cond t (zoq C a E h k) (zoq C b E h k)
  | _=>none
 | _,_,_,_,_=>none
def z8a (C:Ctx U) (a b:Code):Option Nat:=
 match b with
 | .cond (.tmp d) _ _=>cond (C.bj.contains d&&znc C a) (some d) none
 | _=>none
def ziq (C:Ctx U) {R0:Type} (L:Nat→Option (Cut U R0)):Code→{R:Type}→Kont U R0 R→List (AV U)→za U→Option R
 | .skip,_,K,E,h=>K.norm E h
 | .region id ops draw,_,K,E,h=>cond (!draw||z7y C ops) (
  let g:=zfo (zum ((C.pre id).map fun i=>E.getD i .dead)) E h
  zej C draw draw ops (ops.size+1) none [] ops.toList g.1 g.2 K.norm) none
 | .seq a b,_,K,E,h=>match z8a C a b with
  | some d=>(zoq C a E h fun E'=>znm C E' (.tmp d)).bind fun r=>ziq C L b K (zd0 (zv7 (zs0 a) E) (some d) (.sc (.bool r))) h
  | none=>match(zqu b).bind C.joins with
   | none=>ziq C L a {K with norm:=ziq C L b K} E h
   | some (sp,ts)=>(ziq C L a (R:=PT U ts) {norm:=fun E h=>(dec C sp E h).bind (zjm U ts),exit:=fun _ _ _=>none,ret:=fun _ _=>none,res:=fun _=>none} E h).bind fun y=>
    (znk C sp E.length (zen U ts y)).bind fun s=>ziq C L b K s.1 s.2
 | .cond c a b,_,K,E,h=>match opv C E c with
  | .sc (.bool t)=>cond t (ziq C L a K E h) (ziq C L b K E h)
  | _=>none
 | .block id (.loop body),_,K,E,h=>match L id with
  | some (.plain sp ts f)=>((dec C sp E h).bind (zjm U ts)).bind fun x=>(f x).bind fun y=>(znk C sp E.length (zen U ts y)).bind fun s=>K.norm s.1 s.2
  | some (.rets sp ts f)=>((dec C sp E h).bind (zjm U ts)).bind fun x=>(f x).bind fun y=>
   zbq y K.res fun y=>(znk C sp E.length (zen U ts y)).bind fun s=>K.norm s.1 s.2
  | none=>none
 | .block id body,_,K,E,h=>ziq C L body {K with exit:=fun i E h=>cond (Nat.beq i id) (K.norm E h) (K.exit i E h)} E h
 | .exit id,_,K,E,h=>K.exit id E h
 | .ret,_,K,E,h=>K.ret E h
 | _,_,_,_,_=>none
def zd1 (C:Ctx U) (E:List (AV U)) (h:za U) (fresh:List Nat):List ResultVar→List U.Ty→Option (List (Dyn U) × List Nat × List Nat)
 | [],[]=>some ([],[],[])
 | .tmp t::rs,ty::ts=>(zkd C h ty (E.getD t .dead)).bind fun x=>(ze4 h fresh 0 (E.getD t .dead).cells).bind fun ks=>
  (zd1 C E h [] rs ts).bind fun l=>some (⟨ty,x⟩::l.1,ks++l.2.1,zgf fresh 0 (E.getD t .dead).cells++l.2.2)
 | .cell a T::rs,ty::ts=>((zj5 C h (E.getD a .dead) fun cs=>some cs).bind (zog C T)).bind fun v=>(zkd C h ty v).bind fun x=>(ze4 h fresh 0 v.cells).bind fun ks=>
  (zd1 C E h [] rs ts).bind fun l=>some (⟨ty,x⟩::l.1,ks++l.2.1,zgf fresh 0 v.cells++l.2.2)
 | _,_=>none
def zop (C:Ctx U) (h:za U):Nat→List (Md U)→Option (List (Dyn U) × List Nat × List Nat)
 | _,[]=>some ([],[],[])
 | j,.ptr t true owns::ms=>match zc h (1000000+j)with
  | some (.box cs)=>(C.En.reify t (cs.map (zem h))).bind fun x=>(ze4 h owns 0 cs).bind fun ks=>(zop C h (j+1) ms).bind fun l=>some (⟨t,x⟩::l.1,ks++l.2.1,zgf owns 0 cs++l.2.2)
  | _=>none
 | j,.ptr _ false _::ms=>zop C h (j+1) ms
 | j,.bclo _ _ _::ms=>zop C h (j+1) ms
 | j,_::ms=>zop C h j ms
def zn9 (C:Ctx U) (fn:Func) (ct:Ct U) (E:List (AV U)) (h:za U):Option (PT U (ct.results++ct.outs)):=
 (zd1 C E h ct.fresh fn.results.toList ct.results).bind fun l=>(zop C h 0 ct.params).bind fun l'=>
  cond (zh0 (l.2.1++l'.2.1)&&(l.2.2++l'.2.2).all fun k=> !(l.2.1++l'.2.1).contains k) (zjm U (ct.results++ct.outs) (l.1++l'.1)) none
def z2e (C:Ctx U) (ct:Ct U) (y:PT U (ct.results++ct.outs)):Bool:=
 match zb6 C 9000000 ct.fresh ((zen U (ct.results++ct.outs) y).take ct.results.length),zhf C 0 (zmg ct.params) ((zen U (ct.results++ct.outs) y).drop ct.results.length)with
 | some r,some o=>zh0 ((r.2++o).map (·.1))
 | _,_=>false
def zkl:Nat→List (Md U)→List Nat
 | _,[]=>[]
 | j,.ptr _ _ _::ms=>(1000000+j)::zkl (j+1) ms
 | j,.bclo _ _ _::ms=>(1000000+j)::zkl (j+1) ms
 | j,_::ms=>zkl j ms
def zeh:Code→List Nat
 | .seq a b=>zeh a++zeh b
 | .cond _ a b=>zeh a++zeh b
 | .block i (.loop body)=>i::zeh body
 | .block _ body=>zeh body
 | .loop body=>zeh body
 | _=>[]
def zyi:List Nat→List Nat→Bool
 | [],[]=>true
 | a::l,b::m=>Nat.beq a b&&zyi l m
 | _,_=>false
def runF (C:Ctx U) (fn:Func) (ct:Ct U) (L:Nat→Option (Cut U (PT U (ct.results++ct.outs)))) (ds:List (Dyn U)):Option (PT U (ct.results++ct.outs)):=
 match fn.body with
 | none=>none
 | some body=>(zmp C ct.params ds).bind fun a=>
  cond (Nat.ble a.1.length fn.ntmps&&(zyi C.ro (zcn 0 ct.params)&&(zyi C.pk (zkl 0 ct.params)&&zh0 (zeh body))))
   (let fin:=zn9 C fn ct
   ziq C L body {norm:=fin,exit:=fun _ _ _=>none,ret:=fin,res:=some} (a.1++List.replicate (fn.ntmps-a.1.length) .dead) a.2) none
inductive Round (R:Type) (α:Type) where
 | again (x:α)
 | leave (x:α)
 | result (r:R)
def z88 (C:Ctx U) (fn:Func) (ct:Ct U) (L:Nat→Option (Cut U (PT U (ct.results++ct.outs)))) (sp:Spec U) (ts:List U.Ty) (id:Nat) (body:Code) (x:PT U ts):Option (Round (PT U (ct.results++ct.outs)) (PT U ts)):=
 (znk C sp fn.ntmps (zen U ts x)).bind fun s=>
  ziq C L body {norm:=fun E h=>(dec C sp E h).bind fun l=>(zjm U ts l).bind fun y=>some (.again y),exit:=fun i E h=>cond (Nat.beq i id) ((dec C sp E h).bind fun l=>(zjm U ts l).bind fun y=>some (.leave y)) none,ret:=fun E h=>(zn9 C fn ct E h).bind fun r=>some (.result r),res:=fun r=>some (.result r)} s.1 s.2
def zp {R α:Type} (f:α→Option (Round R α)):Nat→α→Option (R ⊕ α)
 | 0,_=>none
 | n+1,x=>(f x).bind fun r=>match r with
  | .again y=>zp f n y
  | .leave y=>some (.inr y)
  | .result r=>some (.inl r)
inductive Stp (α:Type) where
 | again (x:α)
 | leave (x:α)
def zi {α:Type} (f:α→Option (Stp α)):Nat→α→Option α
 | 0,_=>none
 | n+1,x=>(f x).bind fun r=>match r with
  | .again y=>zi f n y
  | .leave y=>some y
def zacg (C:Ctx U) {R0:Type} (L:Nat→Option (Cut U R0)) (n:Nat) (sp:Spec U) (ts:List U.Ty) (id:Nat) (body:Code) (x:PT U ts):Option (Stp (PT U ts)):=
 (znk C sp n (zen U ts x)).bind fun s=>
  ziq C L body {norm:=fun E h=>(dec C sp E h).bind fun l=>(zjm U ts l).bind fun y=>some (.again y),exit:=fun i E h=>cond (Nat.beq i id) ((dec C sp E h).bind fun l=>(zjm U ts l).bind fun y=>some (.leave y)) none,ret:=fun _ _=>none,res:=fun _=>none} s.1 s.2
def zeb (id:Nat):Code→Option Code
 | .seq a b=>match zeb id a with
  | some c=>some c
  | none=>zeb id b
 | .cond _ a b=>match zeb id a with
  | some c=>some c
  | none=>zeb id b
 | .block i (.loop body)=>cond (Nat.beq i id) (some body) (zeb id body)
 | .block _ body=>zeb id body
 | .loop body=>zeb id body
 | _=>none
def zhi (fn:Func) (id:Nat):Option Code:=fn.body.bind (zeb id)
def zp1 (C:Ctx U) (fn:Func) (ct:Ct U) (L:Nat→Option (Cut U (PT U (ct.results++ct.outs)))) (sp:Spec U) (ts:List U.Ty) (id:Nat) (x:PT U ts):Option (Round (PT U (ct.results++ct.outs)) (PT U ts)):=
 match zhi fn id with
 | none=>none
 | some body=>z88 C fn ct L sp ts id body x
def zp2 (C:Ctx U) {R0:Type} (fn:Func) (L:Nat→Option (Cut U R0)) (sp:Spec U) (ts:List U.Ty) (id:Nat) (x:PT U ts):Option (Stp (PT U ts)):=
 match zhi fn id with
 | none=>none
 | some body=>zacg C L fn.ntmps sp ts id body x
def pick {α:Type}:List (Nat × α)→Nat→Option α
 | [],_=>none
 | (i,x)::l,j=>cond (Nat.beq i j) (some x) (pick l j)
end run
end
def zc6 {α:Type} (bytes:Nat) (xs:List α):Option (List α):=cond (Nat.ble (xs.length*bytes) zae) (some xs) none
def zow (s:ByteArray) (n:Int):Option ByteArray:=
 if 0≤n∧n≤9223372036854775807∧s.size*n.toNat≤140737488355328 then some ⟨(Lib.repeatL s.data.toList n.toNat).toArray⟩else none
def z08 (n:Int):Option ByteArray:=if-9223372036854775808≤n∧n≤9223372036854775807 then some ⟨(Lib.itoa n).toArray⟩else none
def insD {α:Type} (lt:α→α→Bool) (x:α):List α→List α
 | []=>[x]
 | y::l=>cond (lt x y) (x::y::l) (cond (lt y x) (y::insD lt x l) (y::l))
def ordD {α:Type} (lt:α→α→Bool):List α→List α
 | []=>[]
 | x::l=>insD lt x (ordD lt l)
def zpy {α:Type} (lt:α→α→Bool) (ok:α→Bool) (l:List α):Option (List α):=cond (l.all ok&&Nat.ble (l.length*40) zae) (some (ordD lt l)) none
def zg (k:IntKind) (x y:Int):Int:=k.wrap ((BitVec.ofInt k.bits x&&&BitVec.ofInt k.bits y).toNat)
def orI (k:IntKind) (x y:Int):Int:=k.wrap ((BitVec.ofInt k.bits x|||BitVec.ofInt k.bits y).toNat)
def z90 (k:IntKind) (x y:Int):Int:=k.wrap ((BitVec.ofInt k.bits x&&& ~~~BitVec.ofInt k.bits y).toNat)
set_option linter.unusedSimpArgs false
structure Loc where
 box:Bool
 at_:Option (Nat × Nat)
 ver:Nat
 len:Nat
 sz:Nat
 size:Nat
abbrev Mp:=Nat→Option Loc
abbrev Fz:=Nat→Nat→Option Value
def Fz.le (H H':Fz):Prop:=∀b o v,H b o=some v→H' b o=some v
theorem Fz.le_refl (H:Fz):H.le H:=fun _ _ _ h=>h
theorem Fz.le_trans {H H' H'':Fz} (h:H.le H') (h':H'.le H''):H.le H'':=fun b o v hv=>h' b o v (h b o v hv)
theorem zai.of_length {α:Type} (w:zai) (xs:List α) (h:w.off+w.len xs.length≤xs.length):(zbu w xs).length=w.len xs.length:=by
 cases w with
 | full=>rfl
 | suf o=>simp [zbu,zai.len]
 | sub o l=>simp [zbu,zai.len,zai.off]at*;omega
theorem zai.of_get {α:Type} (w:zai) (xs:List α) (i:Nat) (x:α) (h:(zbu w xs)[i]?=some x):xs[w.off+i]?=some x:=by
 cases w with
 | full=>simpa [zai.off,zbu]using h
 | suf o=>simpa [zai.off,zbu]using h
 | sub o l=>
  simp only [zai.off,zbu,List.getElem?_take,List.getElem?_drop]at*;split at h
  · exact h
  · cases h
def zol (l:Loc) (w:zai) (v:Value):Prop:=
 w.off+w.len l.len≤l.len∧
 match l.at_ with
 | none=>v= .slice none 0 0∧l.len=0
 | some (b,o)=>∃a cap,v= .slice a (w.len l.len) cap∧w.len l.len≤cap∧(cap≠0→a=some ⟨b,o+w.off*l.sz,none⟩)∧(w.off+cap)*l.sz≤l.size
def Fzc {U:Uni} (c:AV U):Prop:=(∃v,c= .sc v∧v.oneCell'=true)∨∃t xs,c= .lst t xs
def Fza {U:Uni}:AV U→Prop
 | .sc _| .dead| .rptr _| .rarr _ _| .lst _ _=>True
 | _=>False
theorem Fzc.fza {U:Uni} {c:AV U} (h:Fzc c):Fza c:=by
 rcases h with⟨v,rfl,_⟩|⟨t,xs,rfl⟩<;>trivial
def Ref {U:Uni} (c c':AV U):Prop:=c=c'∨(c= .sc (.slice none 0 0)∧∃t,c'= .lst t [])
structure ELaws {U:Uni} (En:Enc U):Prop where
 sz:∀t x,(En.enc t x).length=En.sz t
 pos:∀t,0<En.sz t
 fz:∀t x c,c∈En.enc t x→Fzc c
 one:∀t,En.agg t=false→En.sz t=1
 reify:∀t cs x,En.reify t cs=some x→cs.length=En.sz t∧∀(j:Nat) c c',cs[j]?=some c→(En.enc t x)[j]?=some c'→Ref c c'
 flat:∀t,En.flat t=true→∀x c,c∈En.enc t x→∃v,c= .sc v
 slAgg:∀t,En.agg (En.sl t)=false
 slEnc:∀t xs,En.enc (En.sl t) (En.toSl t xs)=[.lst t xs]
 ofTo:∀t xs,En.ofSl t (En.toSl t xs)=xs
 u8sz:En.sz En.u8=1
 u8:∀x,∃n,En.enc En.u8 x=[.sc (.int .u8 n)]
 toInts:∀(xs:List (U.den En.u8)) (i:Nat) x n,xs[i]?=some x→En.enc En.u8 x=[.sc (.int .u8 n)]→(En.toInts xs)[i]?=some n
 toIntsLen:∀xs,(En.toInts xs).length=xs.length
 ofInts:∀(l:List Int) (i:Nat) n,l[i]?=some n→∃x,(En.ofInts l)[i]?=some x∧En.enc En.u8 x=[.sc (.int .u8 n)]
 ofIntsLen:∀l,(En.ofInts l).length=l.length
section
variable {U:Uni} (En:Enc U)
inductive V (μ:Mp) (H:Fz):AV U→Value→Prop
 | sc (v):V μ H (.sc v) v
 | dead (v):V μ H .dead v
 | ptr {k off l b o} (hl:μ k=some l) (hb:l.box=true) (ha:l.at_=some (b,o)):V μ H (.ptr k off) (.pointer (some ⟨b,o+off,none⟩))
 | eptr {k ver i off l v} (hl:μ k=some l) (hb:l.box=false) (hv:ver≤l.ver) (hp:∃b o,v= .pointer (some ⟨b,o,none⟩)) (h:ver=l.ver→∃b o,l.at_=some (b,o)∧i<l.len∧v= .pointer (some ⟨b,o+(i*l.sz+off),none⟩)):V μ H (.eptr k ver i off) v
 | ixp {k off n i l b o} (hl:μ k=some l) (hb:l.box=true) (ha:l.at_=some (b,o)) (hi:i<n):V μ H (.ixp k off n i) (.pointer (some ⟨b,o+off+i,none⟩))
 | rptr {cs b o} (hf:∀c,c∈cs→Fzc c) (g:Nat→Value) (hH:∀j c,cs[j]?=some c→H b (o+j)=some (g j)) (hv:∀j c,cs[j]?=some c→V μ H c (g j)):V μ H (.rptr cs) (.pointer (some ⟨b,o,none⟩))
 | rarr {t xs b o} (g:Nat→Nat→Value) (hH:∀i x,xs[i]?=some x→∀j c,(En.enc t x)[j]?=some c→H b (o+(i*En.sz t+j))=some (g i j))
  (hv:∀i x,xs[i]?=some x→∀j c,(En.enc t x)[j]?=some c→V μ H c (g i j)):V μ H (.rarr t xs) (.pointer (some ⟨b,o,none⟩))
 | own {k ver w l v} (hl:μ k=some l) (hb:l.box=false) (hv:ver≤l.ver) (hp:∃a n cap,v= .slice a n cap) (h:ver=l.ver→zol l w v):V μ H (.own k ver w) v
 | lst {t xs a n cap b o} (hn:n=xs.length) (hcap:n≤cap) (ha:xs≠[]→a=some ⟨b,o,none⟩) (g:Nat→Nat→Value)
  (hH:∀i x,xs[i]?=some x→∀j c,(En.enc t x)[j]?=some c→H b (o+(i*En.sz t+j))=some (g i j))
  (hv:∀i x,xs[i]?=some x→∀j c,(En.enc t x)[j]?=some c→V μ H c (g i j)):V μ H (.lst t xs) (.slice a n cap)
 | fn {f caps vs} (hn:caps.length=vs.size) (hv:∀j c,caps[j]?=some c→V μ H c (vs.getD j undef)):V μ H (.fn f caps) (.func (.func f) #[] vs)
 | agg {cs vs} (hn:cs.length=vs.size) (hv:∀j c,cs[j]?=some c→V μ H c (vs.getD j undef)):V μ H (.agg cs) (.agg vs)
 | tup {cs vs} (hn:cs.length=vs.size) (hv:∀j c,cs[j]?=some c→V μ H c (vs.getD j undef)):V μ H (.tup cs) (.tuple vs)
def Mp.le (μ μ':Mp):Prop:=∀k l,μ k=some l→∃l',μ' k=some l'∧(l'=l∨(l.box=false∧l'.box=false∧l.ver<l'.ver))
theorem Mp.le_refl (μ:Mp):μ.le μ:=fun k l h=>⟨l,h,.inl rfl⟩
theorem Mp.le_trans {μ μ' μ'':Mp} (h:μ.le μ') (h':μ'.le μ''):μ.le μ'':=by
 intro k l hl
 obtain⟨l1,h1,c1⟩:=h k l hl
 obtain⟨l2,h2,c2⟩:=h' k l1 h1
 refine⟨l2,h2,?_⟩
 rcases c1 with rfl|⟨a,b,c⟩
 · exact c2
 · rcases c2 with rfl|⟨a2,b2,c2⟩
   · exact .inr ⟨a,b,c⟩
   · exact .inr ⟨a,b2,by omega⟩
variable {En}
theorem V.mono {μ μ':Mp} {H H':Fz} (hH:H.le H') (hμ:μ.le μ') {a:AV U} {v:Value} (h:V En μ H a v):V En μ' H' a v:=by
 induction h with
 | sc v=>exact .sc v
 | dead v=>exact .dead v
 | ptr hl hb ha=>
  obtain⟨l',h1,c⟩:=hμ _ _ hl;rcases c with rfl|⟨c1,_,_⟩
  · exact .ptr h1 hb ha
  · rw [hb]at c1;cases c1
 | eptr hl hb hv hp h=>
  obtain⟨l',h1,c⟩:=hμ _ _ hl;rcases c with rfl|⟨c1,c2,c3⟩
  · exact .eptr h1 hb hv hp h
  · exact .eptr h1 c2 (by omega) hp (fun e=>by omega)
 | ixp hl hb ha hi=>
  obtain⟨l',h1,c⟩:=hμ _ _ hl;rcases c with rfl|⟨c1,_,_⟩
  · exact .ixp h1 hb ha hi
  · rw [hb]at c1;cases c1
 | rptr hf g h1 h2 ih=>exact .rptr hf g (fun j c hc=>hH _ _ _ (h1 j c hc)) ih
 | rarr g h1 h2 ih=>exact .rarr g (fun i x hx j c hc=>hH _ _ _ (h1 i x hx j c hc)) ih
 | own hl hb hv hp h=>
  obtain⟨l',h1,c⟩:=hμ _ _ hl;rcases c with rfl|⟨c1,c2,c3⟩
  · exact .own h1 hb hv hp h
  · exact .own h1 c2 (by omega) hp (fun e=>by omega)
 | lst hn hc ha g h1 h2 ih=>exact .lst hn hc ha g (fun i x hx j c hc=>hH _ _ _ (h1 i x hx j c hc)) ih
 | fn hn h ih=>exact .fn hn ih
 | agg hn h ih=>exact .agg hn ih
 | tup hn h ih=>exact .tup hn ih
theorem V.shift (L:ELaws En) {μ:Mp} (μ':Mp) {H:Fz} {a:AV U} {v:Value} (h:V En μ H a v) (hf:Fza a):V En μ' H a v:=by
 induction h with
 | sc v=>exact .sc v
 | dead v=>exact .dead v
 | rptr hfc g h1 h2 ih=>exact .rptr hfc g h1 (fun j c hc=>ih j c hc (hfc c (lma hc)).fza)
 | rarr g h1 h2 ih=>exact .rarr g h1 (fun i x hx j c hc=>ih i x hx j c hc (L.fz _ _ _ (lma hc)).fza)
 | lst hn hc ha g h1 h2 ih=>exact .lst hn hc ha g h1 (fun i x hx j c hc=>ih i x hx j c hc (L.fz _ _ _ (lma hc)).fza)
 | _=>exact hf.elim
theorem Fzc.one {c:AV U} (h:Fzc c) {μ:Mp} {H:Fz} {v:Value} (hv:V En μ H c v):v.oneCell'=true:=by
 rcases h with⟨v',rfl,h1⟩|⟨t,xs,rfl⟩
 · cases hv;exact h1
 · cases hv;rfl
theorem V.one {a:AV U} (h:a.one=true) {μ:Mp} {H:Fz} {v:Value} (hv:V En μ H a v):v.oneCell'=true:=by
 cases hv with
 | sc v=>exact h
 | dead=>simp [AV.one]at h
 | agg=>simp [AV.one]at h
 | tup=>simp [AV.one]at h
 | own hl hb hv hp h=>obtain⟨a,n,cap,rfl⟩:=hp;rfl
 | eptr hl hb hv hp h=>obtain⟨b,o,rfl⟩:=hp;rfl
 | _=>rfl
def Loc.holds (l:Loc) (b o:Nat):Prop:=∃o0,l.at_=some (b,o0)∧o0≤o∧o<o0+l.size
variable (En)in
def zcl (μ:Mp) (H:Fz) (w:World) (l:Loc):Ob U→Prop
 | .box cs=>l.box=true∧l.ver=0∧∃b o,l.at_=some (b,o)∧l.size=cs.length∧
  ∀j c,cs[j]?=some c→∃v,w.cell? ⟨b,o+j,none⟩=some v∧w.frozen? ⟨b,o+j,none⟩=false∧V En μ H c v
 | .arr ver t xs=>l.box=false∧l.ver=ver∧l.len=xs.length∧l.sz=En.sz t∧
  match l.at_ with
  | none=>xs=[]∧l.size=0
  | some (b,o)=>xs.length*En.sz t≤l.size∧(∀j,j<l.size→(w.cell? ⟨b,o+j,none⟩).isSome=true∧w.frozen? ⟨b,o+j,none⟩=false)∧
   ∀i x,xs[i]?=some x→∀j c,(En.enc t x)[j]?=some c→∃v,w.cell? ⟨b,o+(i*En.sz t+j),none⟩=some v∧V En μ H c v
structure Mem (μ:Mp) (H:Fz) (w:World):Prop where
 frz:∀b o v,H b o=some v→w.cell? ⟨b,o,none⟩=some v
 apart:∀k k' l l' b o,μ k=some l→μ k'=some l'→l.holds b o→l'.holds b o→k=k'
 free:∀k l b o,μ k=some l→l.holds b o→H b o=none
 inside:∀k l b o,μ k=some l→l.holds b o→b<w.heap.size
variable (En)in
structure Sim (μ:Mp) (H:Fz) (h:za U) (w:World):Prop extends Mem μ H w where
 obj:∀k l,μ k=some l→∃ob,zc h k=some ob∧zcl En μ H w l ob
structure Wd (S:Nat→Nat→Prop) (w w':World):Prop where
 os:w'.os=w.os
 tape:w'.tape=w.tape
 output:w'.output=w.output
 size:w.heap.size≤w'.heap.size
 keep:∀b,b<w.heap.size→w'.heap[b]?=w.heap[b]?∨∃c c' e f,w.heap[b]?=some (.cells c e f)∧w'.heap[b]?=some (.cells c' e f)∧c'.size=c.size∧∀o,¬S b o→c'[o]?=c[o]?
theorem Wd.refl (S:Nat→Nat→Prop) (w:World):Wd S w w:=⟨rfl,rfl,rfl,Nat.le_refl _,fun _ _=> .inl rfl⟩
theorem Wd.trans {S:Nat→Nat→Prop} {a b c:World} (h:Wd S a b) (h':Wd S b c):Wd S a c where
 os:=h'.os.trans h.os
 tape:=h'.tape.trans h.tape
 output:=h'.output.trans h.output
 size:=Nat.le_trans h.size h'.size
 keep:=by
  intro k hk;rcases h.keep k hk with h1|⟨c1,c1',e,f,h1,h1',hs,ho⟩
  · rcases h'.keep k (by have:=h.size;omega)with h2|⟨c2,c2',e2,f2,h2,h2',hs2,ho2⟩
    · exact .inl (h2.trans h1)
    · exact .inr ⟨c2,c2',e2,f2,h1▸h2,h2',hs2,ho2⟩
  · rcases h'.keep k (by have:=h.size;omega)with h2|⟨c2,c2',e2,f2,h2,h2',hs2,ho2⟩
    · exact .inr ⟨c1,c1',e,f,h1,h2.trans h1',hs,ho⟩
    · rw [h1']at h2;obtain⟨rfl,rfl,rfl⟩:c1'=c2∧e=e2∧f=f2:=by
       have:=Option.some.inj h2;injection this with a b c;exact⟨a,b,c⟩
      exact .inr ⟨c1,c2',e,f,h1,h2',hs2.trans hs,fun o hS=>(ho2 o hS).trans (ho o hS)⟩
theorem Wd.weaken {S S':Nat→Nat→Prop} {w w':World} (h:Wd S w w') (hs:∀b o,b<w.heap.size→S b o→S' b o):Wd S' w w' where
 os:=h.os
 tape:=h.tape
 output:=h.output
 size:=h.size
 keep:=by
  intro k hk;rcases h.keep k hk with h1|⟨c1,c1',e,f,h1,h1',hsz,ho⟩
  · exact .inl h1
  · exact .inr ⟨c1,c1',e,f,h1,h1',hsz,fun o hn=>ho o (fun hS=>hn (hs k o hk hS))⟩
theorem zgo {w:World} {a:Addr} {v:Value} (h:w.cell? a=some v):a.block<w.heap.size:=by
 unfold World.cell? at h
 split at h
 · rename_i heq;exact(Array.getElem?_eq_some_iff.1 heq).1
 · cases h
theorem Wd.cell {S:Nat→Nat→Prop} {w w':World} (h:Wd S w w') {b o:Nat} (hb:b<w.heap.size) (hS:¬S b o):w'.cell? ⟨b,o,none⟩=w.cell? ⟨b,o,none⟩:=by
 rcases h.keep b hb with h1|⟨c1,c1',e,f,h1,h1',hsz,ho⟩
 · unfold World.cell?;simp only [h1]
 · unfold World.cell?;simp only [h1,h1'];simpa using ho o hS
theorem Wd.cellSome {S:Nat→Nat→Prop} {w w':World} (h:Wd S w w') {b o:Nat} (hc:(w.cell? ⟨b,o,none⟩).isSome=true):(w'.cell? ⟨b,o,none⟩).isSome=true:=by
 obtain⟨v,hv⟩:=Option.isSome_iff_exists.1 hc
 have hb:b<w.heap.size:=zgo hv
 rcases h.keep b hb with h1|⟨c1,c1',e,f,h1,h1',hsz,ho⟩
 · unfold World.cell? at hc⊢;simp only [h1];exact hc
 · unfold World.cell? at hc⊢;simp only [h1,h1']at hc⊢;simp only [Option.isSome_none,Bool.false_eq_true,if_false]at hc⊢;rw [Option.isSome_iff_exists]at hc⊢;obtain⟨v,hv⟩:=hc;have:=(Array.getElem?_eq_some_iff.1 hv).1;exact⟨c1'[o]'(by omega),by rw [Array.getElem?_eq_getElem]⟩
theorem Wd.frozen {S:Nat→Nat→Prop} {w w':World} (h:Wd S w w') {b o:Nat} (hb:b<w.heap.size):w'.frozen? ⟨b,o,none⟩=w.frozen? ⟨b,o,none⟩:=by
 rcases h.keep b hb with h1|⟨c1,c1',e,f,h1,h1',hsz,ho⟩
 · unfold World.frozen?;simp only [h1]
 · unfold World.frozen?;simp only [h1,h1']
theorem Wd.below {w w':World} (h:Wd (fun _ _=>False) w w'):RowKit.Below w.heap.size w w' where
 os:=h.os
 tape:=h.tape
 output:=h.output
 size:=h.size
 block:=by
  intro k hk;rcases h.keep k hk with h1|⟨c1,c1',e,f,h1,h1',hsz,ho⟩
  · exact h1
  · rw [h1,h1'];have:c1'=c1:=by
     apply Array.ext hsz;intro i h1 h2;have:=ho i (by simp);rw [Array.getElem?_eq_getElem h1,Array.getElem?_eq_getElem h2]at this;exact Option.some.inj this
    rw [this]
theorem zmo {i n s j:Nat} (hi:i<n) (hj:j<s):i*s+j<n*s:=by
 have:(i+1)*s≤n*s:=Nat.mul_le_mul_right s hi
 rw [Nat.add_mul]at this
 omega
theorem zcl.keep (L:ELaws En) {S:Nat→Nat→Prop} {μ μ':Mp} {H H':Fz} {w w':World} {l:Loc} {ob:Ob U} (h:zcl En μ H w l ob) (hw:Wd S w w') (hH:H.le H') (hμ:μ.le μ')
 (hS:∀b o,l.holds b o→¬S b o):zcl En μ' H' w' l ob:=by
 cases ob with
 | box cs=>
  obtain⟨h0,hv,b,o,ha,hs,hc⟩:=h;refine⟨h0,hv,b,o,ha,hs,fun j c hj=> ?_⟩;obtain⟨v,h1,h2,h3⟩:=hc j c hj;have hb:b<w.heap.size:=zgo h1;have hj':j<cs.length:=(gea hj).1;have hn:¬S b (o+j):=hS b (o+j) ⟨o,ha,by omega,by omega⟩;exact⟨v,by rw [hw.cell hb hn];exact h1,by rw [hw.frozen hb];exact h2,h3.mono hH hμ⟩
 | arr ver t xs=>
  obtain⟨h0,hv,hl,hsz,hm⟩:=h;refine⟨h0,hv,hl,hsz,?_⟩;cases ha:l.at_ with
  | none=>simpa only [ha]using hm
  | some p=>
   obtain⟨b,o⟩:=p;simp only [ha]at hm⊢;obtain⟨hs,hcell,hc⟩:=hm;refine⟨hs,fun j hj=> ?_,fun i x hx j c hj=> ?_⟩
   · obtain⟨h1,h2⟩:=hcell j hj;obtain⟨v,hv'⟩:=Option.isSome_iff_exists.1 h1;exact⟨hw.cellSome h1,by rw [hw.frozen (zgo hv')];exact h2⟩
   · obtain⟨v,h1,h3⟩:=hc i x hx j c hj;have hjl:=(gea hj).1;have hil:=(gea hx).1;rw [L.sz]at hjl;have hlt:=zmo hil hjl;have hb:b<w.heap.size:=zgo h1;exact⟨v,by rw [hw.cell hb (hS b _ ⟨o,ha,by omega,by omega⟩)];exact h1,h3.mono hH hμ⟩
theorem zcl.keep' {μ:Mp} {H:Fz} {w w':World} {l:Loc} {ob:Ob U} (h:zcl En μ H w l ob) (hw:Wd (fun _ _=>False) w w'):zcl En μ H w' l ob:=by
 have hc:∀b o v,w.cell? ⟨b,o,none⟩=some v→w'.cell? ⟨b,o,none⟩=some v:=fun b o v hv=>by rw [hw.cell (zgo hv) (by simp)];exact hv
 cases ob with
 | box cs=>
  obtain⟨h0,hv,b,o,ha,hs,hcs⟩:=h;refine⟨h0,hv,b,o,ha,hs,fun j c hj=> ?_⟩;obtain⟨v,h1,h2,h3⟩:=hcs j c hj;exact⟨v,hc _ _ _ h1,by rw [hw.frozen (zgo h1)];exact h2,h3⟩
 | arr ver t xs=>
  obtain⟨h0,hv,hl,hsz,hm⟩:=h;refine⟨h0,hv,hl,hsz,?_⟩;cases ha:l.at_ with
  | none=>simpa only [ha]using hm
  | some p=>
   obtain⟨b,o⟩:=p;simp only [ha]at hm⊢;obtain⟨hs,hcell,hcs⟩:=hm;refine⟨hs,fun j hj=> ?_,fun i x hx j c hj=> ?_⟩
   · obtain⟨h1,h2⟩:=hcell j hj;obtain⟨v,hv'⟩:=Option.isSome_iff_exists.1 h1;exact⟨hw.cellSome h1,by rw [hw.frozen (zgo hv')];exact h2⟩
   · obtain⟨v,h1,h3⟩:=hcs i x hx j c hj;exact⟨v,hc _ _ _ h1,h3⟩
end
section
variable {U:Uni}
structure CLaws (C:Ctx U):Prop where
 e:ELaws C.En
 go:∀T t,C.En.ofGo T=some t→zbh C T=some (C.En.sz t)∧zec C T=some (C.En.agg t)
structure GOK (C:Ctx U) (H:Fz) (w:World):Prop where
 val:∀g av,C.G g=some av→Fza av∧∀μ,V C.En μ H av (.pointer (some ⟨g,0,none⟩))
 size:∀g t xs,C.G g=some (.rarr t xs)→∃cs T fz,w.heap[g]?=some (.cells cs T fz)∧cs.size=xs.length*C.En.sz t
theorem GOK.mono {C:Ctx U} {H H':Fz} {w:World} (h:GOK C H w) (hH:H.le H'):GOK C H' w where
 val:=fun g av hg=>⟨(h.val g av hg).1,fun μ=>((h.val g av hg).2 μ).mono hH μ.le_refl⟩
 size:=h.size
theorem GOK.step {C:Ctx U} {H:Fz} {w w':World} (h:GOK C H w) {S:Nat→Nat→Prop} (hw:Wd S w w'):GOK C H w' where
 val:=h.val
 size:=fun g t xs hg=>by
  obtain⟨cs,T,fz,h1,h2⟩:=h.size g t xs hg;rcases hw.keep g (Array.getElem?_eq_some_iff.1 h1).1 with h3|⟨c,c',e,f,h3,h4,h5,_⟩
  · exact⟨cs,T,fz,h3.trans h1,h2⟩
  · rw [h1]at h3;cases h3;exact⟨c',T,fz,h4,h5.trans h2⟩
structure Pre (C:Ctx U) (μ:Mp) (H:Fz) (E:List (AV U)) (h:za U) (a:Act) (w:World) (o:Oper):Prop where
 ops:∀x,x∈o.op.operands→V C.En μ H (opv C E x) (a.eval x)
 mem:Mem μ H w
 foot:∀k,k∈zby C E h o→∀l,μ k=some l→∃ob,zc h k=some ob∧zcl C.En μ H w l ob
 glob:GOK C H w
def zpl (μ:Mp) (foot:Nat→Prop) (b o:Nat):Prop:=∃k l,foot k∧μ k=some l∧l.holds b o
structure After (C:Ctx U) (foot:Nat→Prop) (μ:Mp) (H:Fz) (h:za U) (w:World) (h':za U) (μ':Mp) (H':Fz) (w':World):Prop where
 leH:H.le H'
 leM:μ.le μ'
 mem:Mem μ' H' w'
 wd:Wd (zpl μ foot) w w'
 same:∀k,¬foot k→¬(zc h k=none∧zc h' k≠none)→μ' k=μ k∧zc h' k=zc h k
 objs:∀k l',(foot k∨(zc h k=none∧zc h' k≠none))→μ' k=some l'→∃ob,zc h' k=some ob∧zcl C.En μ' H' w' l' ob
 frzNew:∀b o,H' b o≠none→H b o≠none∨w.heap.size≤b∨zpl μ foot b o
 locNew:∀k l' b o,μ' k=some l'→l'.holds b o→(∃l,μ k=some l∧l.holds b o)∨w.heap.size≤b∨zpl μ foot b o
def zup:Nat→Prop:=fun _=>False
theorem Wd.draw (S:Nat→Nat→Prop) (w:World) (n:Nat):Wd S w {w with drawn:=n}:=⟨rfl,rfl,rfl,Nat.le_refl _,fun _ _=> .inl rfl⟩
theorem Mem.same {μ:Mp} {H:Fz} {w w':World} (h:Mem μ H w) (hw:Wd (fun _ _=>False) w w'):Mem μ H w' where
 frz:=fun b o v hv=>by rw [hw.cell (zgo (h.frz b o v hv)) (by simp)];exact h.frz b o v hv
 apart:=h.apart
 free:=h.free
 inside:=fun k l b o hk hl=>Nat.lt_of_lt_of_le (h.inside k l b o hk hl) hw.size
theorem After.still {C:Ctx U} {μ:Mp} {H:Fz} {h:za U} {w w':World} (hm:Mem μ H w) (hw:Wd (fun _ _=>False) w w'):After C zup μ H h w h μ H w' where
 leH:=H.le_refl
 leM:=μ.le_refl
 mem:=hm.same hw
 wd:=hw.weaken fun _ _ _ hf=>hf.elim
 same:=fun k _ _=>⟨rfl,rfl⟩
 objs:=fun k l' hk _=>by
  rcases hk with hk|⟨h1,h2⟩
  · exact hk.elim
  · exact absurd h1 h2
 frzNew:=fun b o hb=> .inl hb
 locNew:=fun k l' b o h1 h2=> .inl ⟨l',h1,h2⟩
theorem After.stay {C:Ctx U} {μ:Mp} {H:Fz} {h:za U} {w:World} (hm:Mem μ H w):After C zup μ H h w h μ H w:=After.still hm (Wd.refl _ w)
theorem zm5 {P:Program} {o:Oper} {a:Act} {w w':World} {cv:Value} {next:Act→World→Prop} {Q:Exit→Act→World→Prop}
 (h:(execOp a.eval o).run P w= .ok (.value cv) w') (hn:next (a.put o.dst cv) w'):o.wp P a w next Q:=by
 unfold Oper.wp
 rw [h]
 exact hn
theorem zad3 {P:Program} {o:Oper} {a:Act} {w w':World} {next:Act→World→Prop} {Q:Exit→Act→World→Prop}
 (h:(execOp a.eval o).run P w= .ok .skip w') (hn:next (a.put o.dst undef) w'):o.wp P a w next Q:=by
 unfold Oper.wp
 rw [h]
 exact hn
theorem z8u {α:Type} {P:Program}:∀(s:Sem α) (a:α),zul P s=some a→∀w,s.run P w= .ok a w:=by
 intro s
 induction s with
 | pure b=>intro a h w;cases h;rfl
 | program k ih=>intro a h w;exact ih P a h w
 | mark m k ih=>intro a h w;exact ih a h w
 | _=>intro a h;cases h
theorem zzh:∀(l:List (AV U)) (vs:List Value),zuj l=some vs→l=vs.map AV.sc
 | [],vs,h=>by cases h;rfl
 | .sc v::l,vs,h=>by
  simp only [zuj,oma]at h;obtain⟨r,hr,rfl⟩:=h;rw [zzh l r hr];rfl
theorem V.toVal {En:Enc U} {μ:Mp} {H:Fz} {av:AV U} {v u:Value} (h:V En μ H av v) (hu:av.toVal=some u):v=u:=by
 have key:∀(cs:List (AV U)) (vs:Array Value) (l:List Value),zuj cs=some l→cs.length=vs.size→(∀j c,cs[j]?=some c→V En μ H c (vs.getD j undef))→vs=l.toArray:=by
  intro cs vs l hl hn hv;have hc:=zzh cs l hl;subst hc;apply Array.ext
  · simpa using hn.symm
  · intro i h1 h2;have:=hv i (.sc (l[i]'(by simpa using h2))) (by simp);generalize hq:(AV.sc (U:=U) (l[i]'(by simpa using h2)))=q at this;generalize hz:vs.getD i undef=z at this;cases this with
    | sc v=>injection hq with hq;simp [Array.getD,h1]at hz;rw [hz,←hq];simp
    | _=>cases hq
 cases h with
 | sc v=>cases hu;rfl
 | agg hn hv=>
  simp only [AV.toVal,oma]at hu;obtain⟨l,hl,rfl⟩:=hu;rw [key _ _ l hl hn hv]
 | tup hn hv=>
  simp only [AV.toVal,oma]at hu;obtain⟨l,hl,rfl⟩:=hu;rw [key _ _ l hl hn hv]
 | _=>cases hu
theorem V.ofVal {En:Enc U} (μ:Mp) (H:Fz) (v:Value):V En μ H (AV.ofVal v) v:=by
 have key:∀(cs:Array Value) j c,(cs.toList.map (AV.sc (U:=U)))[j]?=some c→V En μ H c (cs.getD j undef):=by
  intro cs j c hc;rw [gem,oma]at hc;obtain⟨u,hu,rfl⟩:=hc;have:cs.getD j undef=u:=by
   rw [Array.getElem?_toList]at hu;simp [agd,hu]
  rw [this];exact .sc u
 cases v with
 | agg cs=>exact .agg (by simp) (key cs)
 | tuple cs=>exact .tup (by simp) (key cs)
 | _=>exact .sc _
theorem V.int {En:Enc U} {μ:Mp} {H:Fz} {u v:Value} (h:V En μ H (.sc u) v):v=u:=h.toVal rfl
variable {C:Ctx U} {μ:Mp} {H:Fz} {E:List (AV U)} {h h':za U} {a:Act} {w:World} {o:Oper} {v:AV U} {next:Act→World→Prop} {Q:Exit→Act→World→Prop}
def zg6 (C:Ctx U) (E:List (AV U)) (h:za U) (o:Oper) (k:Nat):Prop:=zar C o=2∧k∈zby C E h o∧C.ro.contains k=false
def zb3 (C:Ctx U) (μ:Mp) (H:Fz) (E:List (AV U)) (h:za U) (a:Act) (w:World) (o:Oper) (v:AV U) (h':za U):Prop:=
 ∀(next:Act→World→Prop) (Q:Exit→Act→World→Prop),
  (∀cv μ' H' w',V C.En μ' H' v cv→After C (zg6 C E h o) μ H h w h' μ' H' w'→next (a.put o.dst cv) w')→o.wp C.P a w next Q
theorem After.weaken {f f':Nat→Prop} {h':za U} {μ':Mp} {H':Fz} {w':World} (h1:After C f μ H h w h' μ' H' w') (hf:∀k,f k→f' k)
 (hk:∀k l',f' k→¬f k→μ' k=some l'→∃ob,zc h' k=some ob∧zcl C.En μ' H' w' l' ob):After C f' μ H h w h' μ' H' w' where
 leH:=h1.leH
 leM:=h1.leM
 mem:=h1.mem
 wd:=h1.wd.weaken fun b o _ ⟨k,l,hk,h2,h3⟩=>⟨k,l,hf k hk,h2,h3⟩
 same:=fun k hn hm=>h1.same k (fun hh=>hn (hf k hh)) hm
 objs:=fun k l' hc hl=>by
  by_cases hfk:f k
  · exact h1.objs k l' (.inl hfk) hl
  · rcases hc with hc|hc
    · exact hk k l' hc hfk hl
    · exact h1.objs k l' (.inr hc) hl
 frzNew:=fun b o hb=>(h1.frzNew b o hb).imp id (Or.imp id fun⟨k,l,hk,h2,h3⟩=>⟨k,l,hf k hk,h2,h3⟩)
 locNew:=fun k l' b o ha hb=>(h1.locNew k l' b o ha hb).imp id (Or.imp id fun⟨k,l,hk,h2,h3⟩=>⟨k,l,hf k hk,h2,h3⟩)
theorem z8k (p:Pre C μ H E h a w o) {cv:Value} {w':World} (hw:Wd (fun _ _=>False) w w') (hr:(execOp a.eval o).run C.P w= .ok (.value cv) w') (hv:V C.En μ H v cv):
 zb3 C μ H E h a w o v h:=fun next Q hn=>by
 refine zm5 hr (hn cv μ H w' hv ?_)
 refine(After.still p.mem hw).weaken (fun k hk=>hk.elim) fun k l' hk _ hl=> ?_
 obtain⟨ob,h1,h2⟩:=p.foot k hk.2.1 l' hl
 exact⟨ob,h1,h2.keep' hw⟩
theorem za0 (p:Pre C μ H E h a w o) {cv:Value} (hr:(execOp a.eval o).run C.P w= .ok (.value cv) w) (hv:V C.En μ H v cv):
 zb3 C μ H E h a w o v h:=z8k p (Wd.refl _ w) hr hv
end
section
variable {U:Uni} {C:Ctx U} {μ:Mp} {H:Fz} {E:List (AV U)} {h h':za U} {a:Act} {w:World} {o:Oper} {v:AV U}
theorem zab9 (p:Pre C μ H E h a w o) {x:Operand} (ho:o.op= .move x∨o.op= .assign x):zb3 C μ H E h a w o (opv C E x) h:=by
 refine za0 p (cv:=a.eval x) ?_ (p.ops x ?_)
 · rcases ho with ho|ho<;>simp [execOp,ho]
 · rcases ho with ho|ho<;>simp [ho,Op.operands]
theorem zaiv (p:Pre C μ H E h a w o) {c x y:Operand} (ho:o.op= .pick c x y) {b1 b2 b3:Bool} (h1:opv C E c= .sc (.bool b1)) (h2:opv C E x= .sc (.bool b2)) (h3:opv C E y= .sc (.bool b3)):
 zb3 C μ H E h a w o (.sc (.bool (cond b1 b2 b3))) h:=by
 have e1:=(h1▸p.ops c (by simp [ho,Op.operands])).int
 have e2:=(h2▸p.ops x (by simp [ho,Op.operands])).int
 have e3:=(h3▸p.ops y (by simp [ho,Op.operands])).int
 refine za0 p (cv:= .bool (cond b1 b2 b3)) ?_ (.sc _)
 simp [execOp,ho,e1,e2,e3,asBool]
 try (cases b1<;>rfl)
theorem zagi (p:Pre C μ H E h a w o) {c x y:Operand} (ho:o.op= .pick c x y) {b:Bool} (h1:opv C E c= .sc (.bool b)):zb3 C μ H E h a w o (opv C E (cond b x y)) h:=by
 have e1:=(h1▸p.ops c (by simp [ho,Op.operands])).int
 refine za0 p (cv:=a.eval (cond b x y)) ?_ (p.ops _ (by cases b<;>simp [ho,Op.operands]))
 simp [execOp,ho,e1,asBool]
 cases b<;>rfl
theorem zacc (p:Pre C μ H E h a w o) (hs:∀cs b,o.op≠ .select cs b) (hall:(o.op.operands.all fun x=>(opv C E x).toVal.isSome)=true) {u:Value}
 (hr:zul C.P (execOp (fun x=>((opv C E x).toVal).getD undef) o)=some (.value u)):zb3 C μ H E h a w o (.ofVal u) h:=by
 refine za0 p (cv:=u) ?_ (.ofVal _ _ _)
 have hc:execOp a.eval o=execOp (fun x=>((opv C E x).toVal).getD undef) o:=by
  refine execOp_congr o hs fun x hx=> ?_;rw [Array.all_eq_true_iff_forall_mem]at hall;obtain⟨u',hu'⟩:=Option.isSome_iff_exists.1 (hall x hx);rw [(p.ops x hx).toVal hu',hu'];rfl
 rw [hc]
 exact z8u _ _ hr w
theorem zaal (p:Pre C μ H E h a w o) {x:Operand} (ho:o.op= .nilCheck x)
 (hx:match opv C E x with| .ptr _ _| .eptr _ _ _ _| .ixp _ _ _ _| .rptr _| .rarr _ _| .fn _ _=>True|_=>False):
 zb3 C μ H E h a w o (opv C E x) h:=by
 have hV:=p.ops x (by simp [ho,Op.operands])
 refine za0 p (cv:=a.eval x) ?_ hV
 generalize hq:opv C E x=q at*
 generalize hz:a.eval x=z at*
 cases hV with
 | eptr hl hb hv' hp hh=>
  obtain⟨b,o',he⟩:=hp;subst he;simp [execOp,ho,hz]
 | ptr=>simp [execOp,ho,hz]
 | ixp=>simp [execOp,ho,hz]
 | rptr=>simp [execOp,ho,hz]
 | rarr=>simp [execOp,ho,hz]
 | fn=>simp [execOp,ho,hz]
 | _=>exact hx.elim
theorem zako (p:Pre C μ H E h a w o) {T T':TypeId} {x y:Operand} (ho:o.op= .binOp .quo T x y T') {kd:IntKind} {m n:Int} (h1:opv C E x= .sc (.int kd m)) (h2:opv C E y= .sc (.int kd n)) (hn:n≠0):
 zb3 C μ H E h a w o (.sc (.int kd (kd.wrap (m.tdiv n)))) h:=by
 have e1:=(h1▸p.ops x (by simp [ho,Op.operands])).int
 have e2:=(h2▸p.ops y (by simp [ho,Op.operands])).int
 refine za0 p (cv:= .int kd (kd.wrap (m.tdiv n))) ?_ (.sc _)
 simp [execOp,ho,e1,e2,eqGuard,binOp,Op.intDiv,hn]
theorem zakn (p:Pre C μ H E h a w o) {T T':TypeId} {x y:Operand} (ho:o.op= .binOp .rem T x y T') {kd:IntKind} {m n:Int} (h1:opv C E x= .sc (.int kd m)) (h2:opv C E y= .sc (.int kd n)) (hn:n≠0):
 zb3 C μ H E h a w o (.sc (.int kd (m.tmod n))) h:=by
 have e1:=(h1▸p.ops x (by simp [ho,Op.operands])).int
 have e2:=(h2▸p.ops y (by simp [ho,Op.operands])).int
 refine za0 p (cv:= .int kd (m.tmod n)) ?_ (.sc _)
 simp [execOp,ho,e1,e2,eqGuard,binOp,Op.intDiv,hn]
theorem zakm (p:Pre C μ H E h a w o) {T T':TypeId} {x y:Operand} (ho:o.op= .binOp .shl T x y T') {kd kd':IntKind} {m n:Int} (h1:opv C E x= .sc (.int kd m)) (h2:opv C E y= .sc (.int kd' n)) (hn:¬n<0):
 zb3 C μ H E h a w o (.sc (.int kd (kd.wrap (m*2^(min n.toNat kd.bits))))) h:=by
 have e1:=(h1▸p.ops x (by simp [ho,Op.operands])).int
 have e2:=(h2▸p.ops y (by simp [ho,Op.operands])).int
 refine za0 p (cv:= .int kd (kd.wrap (m*2^(min n.toNat kd.bits)))) ?_ (.sc _)
 simp [execOp,ho,e1,e2,eqGuard,binOp,Op.shift,hn]
theorem zakl (p:Pre C μ H E h a w o) {T T':TypeId} {x y:Operand} (ho:o.op= .binOp .shr T x y T') {kd kd':IntKind} {m n:Int} (h1:opv C E x= .sc (.int kd m)) (h2:opv C E y= .sc (.int kd' n)) (hn:¬n<0):
 zb3 C μ H E h a w o (.sc (.int kd (m.fdiv (2^(min n.toNat kd.bits))))) h:=by
 have e1:=(h1▸p.ops x (by simp [ho,Op.operands])).int
 have e2:=(h2▸p.ops y (by simp [ho,Op.operands])).int
 refine za0 p (cv:= .int kd (m.fdiv (2^(min n.toNat kd.bits)))) ?_ (.sc _)
 simp [execOp,ho,e1,e2,eqGuard,binOp,Op.shift,hn]
theorem zakp (p:Pre C μ H E h a w o) {T T':TypeId} {x y:Operand} (ho:o.op= .binOp .add T x y T') {m n:ByteArray} (h1:opv C E x= .sc (.string m)) (h2:opv C E y= .sc (.string n)) (hn:¬((m.size+n.size:Nat):Int)>IntKind.i64.max):
 zb3 C μ H E h a w o (.sc (.string (m++n))) h:=by
 have e1:=(h1▸p.ops x (by simp [ho,Op.operands])).int
 have e2:=(h2▸p.ops y (by simp [ho,Op.operands])).int
 refine za0 p (cv:= .string (m++n)) ?_ (.sc _)
 simp only [execOp,ho,e1,e2,eqGuard,binOp,Op.stringOp]
 rw [if_neg hn]
 simp
theorem zacd (p:Pre C μ H E h a w o) {t:Operand} {i:Nat} (ho:o.op= .extract t i) {vs:List (AV U)} (h1:opv C E t= .tup vs) (hv:vs[i]?=some v):zb3 C μ H E h a w o v h:=by
 have hV:=h1▸p.ops t (by simp [ho,Op.operands])
 generalize hz:a.eval t=z at hV
 cases hV with
 | tup hn hh=>
  rename_i us;have hi:i<us.size:=by rw [←hn];exact(gea hv).1
  refine za0 p (cv:=us.getD i undef) ?_ (hh i v hv);simp [execOp,ho,hz,Instr.extract,hi,Array.getD]
theorem zaam (p:Pre C μ H E h a w o) {f:FuncId} {first caps:Array Operand} (ho:o.op= .makeFunc (.func f) first caps) (hf:first.toList=[]):
 zb3 C μ H E h a w o (.fn f (caps.toList.map (opv C E))) h:=by
 have hf':first= #[]:=by apply Array.ext';simpa using hf
 subst hf'
 refine za0 p (cv:= .func (.func f) #[] (caps.map a.eval)) ?_ (.fn (by simp) fun j c hc=> ?_)
 · simp [execOp,ho,Instr.makeFunc]
 · rw [gem,oma]at hc;obtain⟨x,hx,rfl⟩:=hc;rw [Array.getElem?_toList]at hx;have:(caps.map a.eval).getD j undef=a.eval x:=by simp [agd,hx]
   rw [this];exact p.ops x (by simp [ho,Op.operands];exact Array.mem_of_getElem? hx)
def zy9 (En:Enc U) (μ:Mp) (H:Fz) (w:World) (p:Value) (cs:List (AV U)):Prop:=
 ∃b o,p= .pointer (some ⟨b,o,none⟩)∧∀j c,cs[j]?=some c→∃v,w.cell? ⟨b,o+j,none⟩=some v∧V En μ H c v
theorem zy9.drop {En:Enc U} {b o:Nat} {cs:List (AV U)} (hc:∀j c,cs[j]?=some c→∃v,w.cell? ⟨b,o+j,none⟩=some v∧V En μ H c v) (n:Nat):
 ∀j c,(cs.drop n)[j]?=some c→∃v,w.cell? ⟨b,o+n+j,none⟩=some v∧V En μ H c v:=by
 intro j c hj
 rw [List.getElem?_drop]at hj
 have:=hc (n+j) c hj
 rwa [←Nat.add_assoc]at this
theorem zf6 {T:TypeId} {b:Bool} (hb:zec C T=some b) (w:World):(isAgg T).run C.P w= .ok b w:=by
 unfold zec at hb
 unfold isAgg
 rw [Sem.run_bind]
 cases hu:C.P.underlying T with
 | none=>simp [hu]at hb
 | some d=>
  rw [run_underlying hu w];cases d<;>simp_all
theorem zga {T:TypeId} {n:Nat} (hs:zbh C T=some n) (w:World):(sizeOf T).run C.P w= .ok n w:=by
 unfold zbh at hs
 cases hq:C.P.info? T with
 | none=>simp [hq]at hs
 | some i=>
  have:i.size=n:=by simpa [hq]using hs
  simp [sizeOf,typeInfo,hq,this]
theorem z6s {T:TypeId} {cs:List (AV U)} {b o':Nat} (hc:∀j c,cs[j]?=some c→∃v,w.cell? ⟨b,o'+j,none⟩=some v∧V C.En μ H c v) (hl:zog C T cs=some v):
 ∃cv,(loadVar T ⟨b,o',none⟩).run C.P w= .ok cv w∧V C.En μ H v cv:=by
 unfold zog at hl
 cases hs:zbh C T with
 | none=>simp [hs]at hl
 | some n=>
  cases hb:zec C T with
  | none=>simp [hs,hb]at hl
  | some b'=>
   cases b' with
   | true=>
    simp only [hs,hb]at hl
    by_cases hle:Nat.ble n cs.length=true
    · rw [hle]at hl;cases hl;have hn:n≤cs.length:=by simpa using hle
      have hch:∀j,j<n→∃v,w.cell? ⟨b,o'+j,none⟩=some v∧∃c,cs[j]?=some c∧V C.En μ H c v:=by
       intro j hj;have:cs[j]?=some (cs[j]'(by omega)):=lga _;obtain⟨v,h1,h2⟩:=hc j _ this;exact⟨v,h1,_,this,h2⟩
      let g:Nat→Value:=fun j=>(w.cell? ⟨b,o'+j,none⟩).getD undef
      have hg:∀j,j<n→w.cell? ((⟨b,o',none⟩:Addr).add j)=some (g j):=by
       intro j hj;obtain⟨v,h1,_⟩:=hch j hj;rw [Addr.add_mid];simp [g,h1]
      refine⟨.agg ((List.range n).map g).toArray,?_,?_⟩
      · have:=run_loadCells (P:=C.P) w ⟨b,o',none⟩ n g hg;simp [loadVar,Sem.run_bind,zf6 hb,zga hs,this]
      · refine .agg (by simp [hn]) fun j c hj=> ?_;rw [List.getElem?_take]at hj;split at hj
        · rename_i hjn;obtain⟨v,h1,c',h2,h3⟩:=hch j hjn;rw [h2]at hj;cases hj;have:(((List.range n).map g).toArray).getD j undef=v:=by
           simp [agd,g,h1,hjn]
          rw [this];exact h3
        · cases hj
    · have:Nat.ble n cs.length=false:=by cases hq:Nat.ble n cs.length<;>simp_all
      rw [this]at hl;cases hl
   | false=>
    simp only [hs,hb]at hl;cases cs with
    | nil=>cases hl
    | cons c r=>
     cases hl;obtain⟨v',h1,h2⟩:=hc 0 v rfl;refine⟨v',?_,h2⟩;simp only [Nat.add_zero]at h1;simp [loadVar,Sem.run_bind,zf6 hb,h1]
theorem zcr {k:Nat} {x:Operand} (hcl:zar C o≠0) (hx:x∈o.op.operands) (hk:k∈zdn (opv C E x)):k∈zby C E h o:=by
 unfold zby
 split
 · rename_i e;exact absurd e hcl
 · exact mla _ (List.mem_flatMap.2 ⟨x,by simpa using hx,hk⟩)
theorem zw5 (L:CLaws C) (p:Pre C μ H E h a w o) {x:Operand} (hcl:zar C o≠0) (hx:x∈o.op.operands) {cs:List (AV U)} (hc:zj5 C h (opv C E x) (fun cs=>some cs)=some cs):
 zy9 C.En μ H w (a.eval x) cs:=by
 have hV:=p.ops x hx
 have hf:∀k,k∈zdn (opv C E x)→∀l,μ k=some l→∃ob,zc h k=some ob∧zcl C.En μ H w l ob:=fun k hk=>p.foot k (zcr hcl hx hk)
 generalize hq:opv C E x=q at*
 generalize hz:a.eval x=z at*
 cases hV with
 | rptr hfz g h1 h2=>
  simp only [zj5,Option.some.injEq]at hc;subst hc;exact⟨_,_,rfl,fun j c hj=>⟨g j,p.mem.frz _ _ _ (h1 j c hj),h2 j c hj⟩⟩
 | ptr hl hb ha=>
  rename_i k off l b o';obtain⟨ob,h1,h2⟩:=hf k (by simp [zdn,zc4]) l hl;simp only [zj5,h1]at hc;cases ob with
  | arr=>cases hc
  | box cs'=>
   simp only [Option.some.injEq]at hc;subst hc;obtain⟨_,_,b1,o1,ha1,hs,hcs⟩:=h2;rw [ha]at ha1;cases ha1;refine⟨_,_,rfl,zy9.drop (fun j c hj=> ?_) off⟩;obtain⟨v,h3,_,h5⟩:=hcs j c hj;exact⟨v,h3,h5⟩
 | eptr hl hb hv hpp hh=>
  rename_i k ver i off l;obtain⟨ob,h1,h2⟩:=hf k (by simp [zdn,zc4]) l hl;simp only [zj5,h1]at hc;cases ob with
  | box=>cases hc
  | arr ver' t xs=>
   obtain⟨_,hver,hlen,hsz,hm⟩:=h2;simp only at hc
   by_cases hve:ver=ver'
   · subst hve;simp only [Nat.beq_refl,cond_true]at hc;obtain⟨b,o',ha,hi,hp⟩:=hh hver.symm;rw [oba]at hc;obtain⟨x',hx',hc⟩:=hc;cases hc;subst hp;simp only [ha]at hm;obtain⟨_,_,hcs⟩:=hm;refine⟨b,o'+(i*l.sz+off),rfl,?_⟩;have:=zy9.drop (o:=o'+i*l.sz) (b:=b) (fun j c hj=>by
      obtain⟨v,h3,h4⟩:=hcs i x' hx' j c hj;refine⟨v,?_,h4⟩;rw [hsz,Nat.add_assoc];exact h3) off
     simpa only [Nat.add_assoc]using this
   · have:Nat.beq ver ver'=false:=by cases hq:Nat.beq ver ver'<;>simp_all
     rw [this]at hc;cases hc
 | _=>simp [zj5]at hc
theorem zsq {R:Type} (av:AV U) (k:List (AV U)→Option R):zj5 C h av k=(zj5 C h av (fun cs=>some cs)).bind k:=by
 cases av<;>simp only [zj5,obz,Option.bind_none]
 · split<;>simp
 · split
   · rename_i ver' t xs hq;rename_i ver i off _;cases Nat.beq _ ver'<;>simp [Option.bind_assoc]
   · simp
theorem zoh:∀(k:IntKind) (cs:List (AV U)) (l:List Int),zn8 k cs=some l→cs=l.map fun n=> .sc (.int k n)
 | k,[],l,hl=>by cases hl;rfl
 | k,c::cs,l,hl=>by
  cases c with
  | sc v=>
   cases v with
   | int k' n=>
    simp only [zn8]at hl
    by_cases hk:k=k'
    · subst hk;simp only [if_true,oma]at hl;obtain⟨r,hr,rfl⟩:=hl;rw [zoh k cs r hr];rfl
    · simp [hk]at hl
   | _=>simp [zn8]at hl
  | _=>simp [zn8]at hl
theorem zwe:∀(l:List Int) (i:Nat),i<l.length→l[i]?=some (zbk l i)
 | [],i,hi=>by simp at hi
 | x::l,0,_=>rfl
 | x::l,i+1,hi=>by
  simp only [zbk];rw [List.getElem?_cons_succ,zwe l i (by simpa using hi)];simp
theorem zaiw (L:CLaws C) (p:Pre C μ H E h a w o) {T:TypeId} {x:Operand} (ho:o.op= .load T x) (hs:zqe C T (opv C E x) h (fun v=>some v)=some v):zb3 C μ H E h a w o v h:=by
 have hx:x∈o.op.operands:=by simp [ho,Op.operands]
 by_cases hix:∃k off n i,opv C E x= .ixp k off n i
 · obtain⟨k,off,n,i,hq⟩:=hix;have hV:=hq▸p.ops x hx;have hfoot:=p.foot k (zcr (by simp [zar,ho]) hx (by simp [hq,zdn,zc4]));generalize hz:a.eval x=z at hV;cases hV with
   | ixp hl hb ha hi=>
    rename_i l b o';obtain⟨ob,h1,h2⟩:=hfoot l hl;simp only [hq,zqe,h1]at hs;cases ob with
    | arr=>cases hs
    | box cs=>
     simp only at hs;cases hk:z6t (cs.drop off)with
     | none=>simp [hk]at hs
     | some kd=>
      simp only [hk]at hs;split at hs
      · rename_i ns hns hsz hag
        by_cases hlen:Nat.beq ns.length n=true
        · rw [hlen]at hs;simp only [cond_true,Option.some.injEq]at hs;subst hs;have hlen':ns.length=n:=by simpa using hlen
          have hcs:=zoh kd _ ns hns;obtain⟨_,_,b1,o1,ha1,hsz1,hcells⟩:=h2;rw [ha]at ha1;cases ha1;have hi':i<ns.length:=by omega
          have hc:cs[off+i]?=some (.sc (.int kd (zbk ns i))):=by
           have:((cs.drop off).take n)[i]?=some (.sc (.int kd (zbk ns i))):=by
            rw [hcs,gem,zwe ns i hi'];rfl
           rw [List.getElem?_take,if_pos hi,List.getElem?_drop]at this;exact this
          obtain⟨v',h3,_,h5⟩:=hcells _ _ hc;have h5':=h5.int;subst h5';refine za0 p (cv:= .int kd (zbk ns i)) ?_ (.sc _);have h3':w.cell? ⟨b,o'+off+i,none⟩=some (.int kd (zbk ns i)):=by rw [Nat.add_assoc];exact h3
          simp [execOp,ho,hz,Instr.loadAt,Instr.sureAddr,loadVar,zf6 hag,h3']
        · have:Nat.beq ns.length n=false:=by cases hq:Nat.beq ns.length n<;>simp_all
          rw [this]at hs;cases hs
      · cases hs
 · have hs':zj5 C h (opv C E x) (fun cs=>(zog C T cs).bind fun v=>some v)=some v:=by
    revert hs
    unfold zqe;split
    · rename_i k off n i hq;exact absurd ⟨_,_,_,_,hq⟩ hix
    · exact id
   rw [zsq,oba]at hs';obtain⟨cs,h1,h2⟩:=hs';have h2:zog C T cs=some v:=by simpa using h2
   obtain⟨b,o',hp,hc⟩:=zw5 L p (by simp [zar,ho]) hx h1;obtain⟨cv,hr,hv⟩:=z6s hc h2;refine za0 p (cv:=cv) ?_ hv;simp [execOp,ho,hp,Instr.loadAt,Instr.sureAddr,hr]
theorem z8t (p:Pre C μ H E h a w o) {T:TypeId} {x:Operand} {f n:Nat} (ho:o.op= .fieldAddr T x f) (hf:zqh C T f=some n) (hv:zad0 n (opv C E x)=some v):zb3 C μ H E h a w o v h:=by
 have hx:x∈o.op.operands:=by simp [ho,Op.operands]
 have hV:=p.ops x hx
 unfold zqh at hf
 split at hf
 · rename_i fs hu;split at hf
   · rename_i fd hfd;split at hf
     · rename_i m hsz;cases hf;have hrun:∀b o',a.eval x= .pointer (some ⟨b,o',none⟩)→(execOp a.eval o).run C.P w= .ok (.value (.pointer (some ⟨b,o'+fd.offset,none⟩))) w:=by
        intro b o' hp;simp [execOp,ho,hp,Instr.fieldAt,run_underlying hu,hfd,Instr.sureAddr,fieldPlace,zga hsz,Addr.add_mid]
       generalize hqq:opv C E x=q at*;generalize hz:a.eval x=z at*;cases hV with
       | ptr hl hb ha=>
        cases hv;refine za0 p (hrun _ _ rfl) ?_;rw [Nat.add_assoc];exact .ptr hl hb ha
       | rptr hfz g h1 h2=>
        cases hv;refine za0 p (hrun _ _ rfl) ?_;refine .rptr (fun c hc=>hfz c (List.mem_of_mem_drop hc)) (fun j=>g (fd.offset+j)) (fun j c hj=> ?_) (fun j c hj=> ?_)
        · rw [List.getElem?_drop]at hj;rw [Nat.add_assoc];exact h1 _ _ hj
        · rw [List.getElem?_drop]at hj;exact h2 _ _ hj
       | eptr hl hb hver hpp hh=>
        cases hv;obtain⟨b,o',hp⟩:=hpp;subst hp;refine za0 p (hrun _ _ rfl) ?_;refine .eptr hl hb hver ⟨_,_,rfl⟩ fun he=> ?_;obtain⟨b1,o1,ha,hi,hp⟩:=hh he;injection hp with hp;injection hp with hp;injection hp with h1 h2 _;subst h1;subst h2;exact⟨_,_,ha,hi,by simp [Nat.add_assoc]⟩
       | _=>cases hv
     · cases hf
   · cases hf
 · cases hf
end
section
variable {U:Uni} {C:Ctx U} {μ:Mp} {H:Fz} {E:List (AV U)} {h h':za U} {a:Act} {w:World} {o:Oper} {v:AV U}
theorem zaer {T:TypeId} {cs:List (AV U)} {us:Array Value} (hn:cs.length=us.size) (hv:∀j c,cs[j]?=some c→V C.En μ H c (us.getD j undef)) {off:Nat} (hl:zog C T (cs.drop off)=some v):
 ∃cv,(part T us off).run C.P w= .ok cv w∧V C.En μ H v cv:=by
 unfold zog at hl
 cases hs:zbh C T with
 | none=>simp [hs]at hl
 | some n=>
  cases hb:zec C T with
  | none=>simp [hs,hb]at hl
  | some b'=>
   cases b' with
   | true=>
    simp only [hs,hb]at hl
    by_cases hle:Nat.ble n (cs.drop off).length=true
    · rw [hle]at hl;cases hl;have hle':n≤cs.length-off:=by simpa using hle
      refine⟨.agg (us.extract off (off+n)),by simp [part,Sem.run_bind,zf6 hb,zga hs],?_⟩
      by_cases h0:n=0
      · subst h0;exact .agg (by simp;omega) fun j c hj=>by simp at hj
      · refine .agg (by simp;omega) fun j c hj=> ?_;rw [List.getElem?_take]at hj;split at hj
        · rename_i hjn;rw [List.getElem?_drop]at hj;have:=hv _ _ hj;have e:(us.extract off (off+n)).getD j undef=us.getD (off+j) undef:=by
           simp only [agd,Array.getElem?_extract]
           congr 1
           rw [if_pos (by omega)]
          rw [e];exact this
        · cases hj
    · have:Nat.ble n (cs.drop off).length=false:=by
       cases hq:Nat.ble n (cs.drop off).length
       · rfl
       · exact absurd hq hle
      rw [this]at hl;cases hl
   | false=>
    simp only [hs,hb]at hl;have hl':cs[off]?=some v:=by
     rw [←List.head?_drop];exact hl
    have hlt:off<us.size:=by rw [←hn];exact(gea hl').1
    refine⟨us.getD off undef,?_,hv _ _ hl'⟩;simp [part,Sem.run_bind,zf6 hb,hlt,Array.getD]
theorem zagj (p:Pre C μ H E h a w o) {T:TypeId} {x:Operand} {f n:Nat} (ho:o.op= .field T x f) (hf:zqh C T f=some n) {cs:List (AV U)} (hx:opv C E x= .agg cs) {fs:Array Field} (hu:C.P.underlying T=some (.struct fs))
 {fd:Field} (hfd:fs[f]?=some fd) (hl:zog C fd.type (cs.drop n)=some v):zb3 C μ H E h a w o v h:=by
 have hV:=hx▸p.ops x (by simp [ho,Op.operands])
 have hoff:fd.offset=n:=by
  unfold zqh at hf;simp only [hu,hfd]at hf;split at hf
  · exact Option.some.inj hf
  · cases hf
 generalize hz:a.eval x=z at hV
 cases hV with
 | agg hn hv=>
  obtain⟨cv,hr,hcv⟩:=zaer (w:=w) hn hv hl;refine za0 p (cv:=cv) ?_ hcv;simp [execOp,ho,hz,Instr.field,run_underlying hu,hfd,asAgg,hoff,hr]
theorem zaan (p:Pre C μ H E h a w o) {T:TypeId} {x y:Operand} (ho:o.op= .index T x y) (hu:C.P.underlying T=some .string) {s:ByteArray} (hx:opv C E x= .sc (.string s)) {k:IntKind} {i:Int}
 (hy:opv C E y= .sc (.int k i)) {b:UInt8} (hb:znh s i=some b):zb3 C μ H E h a w o (.sc (.int .u8 b.toNat)) h:=by
 have e1:=(hx▸p.ops x (by simp [ho,Op.operands])).int
 have e2:=(hy▸p.ops y (by simp [ho,Op.operands])).int
 refine za0 p (cv:= .int .u8 b.toNat) ?_ (.sc _)
 unfold znh at hb
 simp [execOp,ho,e1,e2,Instr.index,asIntOf,run_underlying hu,hb]
theorem zaao (p:Pre C μ H E h a w o) {T e:TypeId} {n:Nat} {x y:Operand} (ho:o.op= .index T x y) (hu:C.P.underlying T=some (.array n e)) {cs:List (AV U)} (hx:opv C E x= .agg cs) {k kd:IntKind} {i:Int}
 (hy:opv C E y= .sc (.int k i)) (hs:zbh C e=some 1) (hag:zec C e=some false) {l:List Int} (hl:zn8 kd cs=some l) (hn:l.length=n) (h0:0≤i) (hi:i<(n:Int)):
 zb3 C μ H E h a w o (.sc (.int kd (zbk l i.toNat))) h:=by
 have hV:=hx▸p.ops x (by simp [ho,Op.operands])
 have e2:=(hy▸p.ops y (by simp [ho,Op.operands])).int
 have hcs:=zoh kd _ _ hl
 generalize hz:a.eval x=z at hV
 cases hV with
 | agg hlen hv=>
  rename_i us;have hil:i.toNat<l.length:=by omega
  have hc:cs[i.toNat]?=some (.sc (.int kd (zbk l i.toNat))):=by rw [hcs,gem,zwe l _ hil];rfl
  have h5:=(hv _ _ hc).int;have hlt:i.toNat<us.size:=by rw [←hlen,hcs,List.length_map];exact hil
  refine za0 p (cv:= .int kd (zbk l i.toNat)) ?_ (.sc _);have h6:us[i.toNat]?=some (.int kd (zbk l i.toNat)):=by
   rw [agd,Array.getElem?_eq_getElem hlt]at h5;rw [Array.getElem?_eq_getElem hlt];simpa using h5
  simp [execOp,ho,hz,e2,Instr.index,asIntOf,run_underlying hu,h0,hi,zga hs,part,zf6 hag,h6]
theorem z6u {α:Type} {xs:List α} {i:Int} {x:α} (hx:idx xs i=some x):0≤i∧i<xs.length∧xs[i.toNat]?=some x:=by
 unfold idx at hx
 split at hx
 · rename_i h0;have:=(gea hx).1;exact⟨h0,by omega,hx⟩
 · cases hx
theorem zpb {T e:TypeId} {x y:Operand} (ho:o.op= .indexAddr T x y) (hu:C.P.underlying T=some (.slice e)) {b o' n cap:Nat} {k:IntKind} {i:Int} {s:Nat} (hs:zbh C e=some s)
 (hx:a.eval x= .slice (some ⟨b,o',none⟩) n cap) (hy:a.eval y= .int k i) (h0:0≤i) (hi:i<(n:Int)):
 (execOp a.eval o).run C.P w= .ok (.value (.pointer (some ⟨b,o'+i.toNat*s,none⟩))) w:=by
 simp [execOp,ho,hx,hy,Instr.indexAt,asIntOf,run_underlying hu,h0,hi,zga hs,Addr.add_mid]
theorem z1m (L:CLaws C) (p:Pre C μ H E h a w o) {T e:TypeId} {x y:Operand} (ho:o.op= .indexAddr T x y) (hu:C.P.underlying T=some (.slice e)) {t:U.Ty} {xs:List (U.den t)} (hx:opv C E x= .lst t xs) {k:IntKind} {i:Int}
 (hy:opv C E y= .sc (.int k i)) {z:U.den t} (hi:idx xs i=some z) (hs:zbh C e=some (C.En.sz t)):zb3 C μ H E h a w o (.rptr (C.En.enc t z)) h:=by
 have hV:=hx▸p.ops x (by simp [ho,Op.operands])
 have e2:=(hy▸p.ops y (by simp [ho,Op.operands])).int
 obtain⟨h0,hlt,hz⟩:=z6u hi
 generalize hq:a.eval x=q at hV
 cases hV with
 | lst hn hcap ha g h1 h2=>
  have hne:xs≠[]:=by intro h;subst h;simp at hz
  have ha':=ha hne;subst ha';subst hn;refine za0 p (zpb ho hu hs hq e2 h0 hlt) ?_;refine .rptr (fun c hc=>L.e.fz _ _ _ hc) (fun j=>g i.toNat j) (fun j c hj=> ?_) (fun j c hj=>h2 _ _ hz j c hj);rw [Nat.add_assoc];exact h1 _ _ hz j c hj
theorem z1l (p:Pre C μ H E h a w o) {T e:TypeId} {x y:Operand} (ho:o.op= .indexAddr T x y) (hu:C.P.underlying T=some (.slice e)) {key ver:Nat} (hx:opv C E x= .own key ver .full) {k:IntKind} {i:Int}
 (hy:opv C E y= .sc (.int k i)) {t:U.Ty} {xs:List (U.den t)} (hg:zc h key=some (.arr ver t xs)) (h0:0≤i) (hi:i<(xs.length:Int)) (hs:zbh C e=some (C.En.sz t)):
 zb3 C μ H E h a w o (.eptr key ver i.toNat 0) h:=by
 have hxm:x∈o.op.operands:=by simp [ho,Op.operands]
 have hV:=hx▸p.ops x hxm
 have e2:=(hy▸p.ops y (by simp [ho,Op.operands])).int
 have hfoot:=p.foot key (zcr (by simp [zar,ho]) hxm (by simp [hx,zdn,zc4]))
 generalize hq:a.eval x=q at hV
 cases hV with
 | own hl hb hv hpp hh=>
  rename_i l;obtain⟨ob,h1,h2⟩:=hfoot l hl;rw [hg]at h1;cases h1;obtain⟨_,hver,hlen,hsz,hm⟩:=h2;obtain⟨hw1,hw2⟩:=hh hver.symm;cases ha:l.at_ with
  | none=>
   simp only [ha]at hm hw2;rw [hm.1]at hi;simp at hi;omega
  | some q'=>
   obtain⟨b,o'⟩:=q';simp only [ha]at hw2;obtain⟨a',cap,rfl,hlc,hcap,_⟩:=hw2;have hc0:cap≠0:=by
    simp only [zai.len]at hlc;omega
   have:=hcap hc0;subst this;simp only [zai.off,zai.len,Nat.zero_mul,Nat.add_zero]at*;refine za0 p (zpb ho hu hs hq e2 h0 (by omega)) ?_;refine .eptr hl hb hv ⟨_,_,rfl⟩ fun _=>⟨b,o',ha,by omega,by rw [hsz];rfl⟩
theorem z1k (p:Pre C μ H E h a w o) {T e:TypeId} {x y:Operand} (ho:o.op= .indexAddr T x y) (hu:C.P.underlying T=some (.slice e)) {key ver off:Nat} (hx:opv C E x= .own key ver (.suf off)) {k:IntKind} {i:Int}
 (hy:opv C E y= .sc (.int k i)) {t:U.Ty} {xs:List (U.den t)} (hg:zc h key=some (.arr ver t xs)) (h0:0≤i) (hi:i<((xs.length-off:Nat):Int)) (hs:zbh C e=some (C.En.sz t)):
 zb3 C μ H E h a w o (.eptr key ver (off+i.toNat) 0) h:=by
 have hxm:x∈o.op.operands:=by simp [ho,Op.operands]
 have hV:=hx▸p.ops x hxm
 have e2:=(hy▸p.ops y (by simp [ho,Op.operands])).int
 have hfoot:=p.foot key (zcr (by simp [zar,ho]) hxm (by simp [hx,zdn,zc4]))
 generalize hq:a.eval x=q at hV
 cases hV with
 | own hl hb hv hpp hh=>
  rename_i l;obtain⟨ob,h1,h2⟩:=hfoot l hl;rw [hg]at h1;cases h1;obtain⟨_,hver,hlen,hsz,hm⟩:=h2;obtain⟨hw1,hw2⟩:=hh hver.symm;cases ha:l.at_ with
  | none=>
   simp only [ha]at hm hw2;rw [hm.1]at hi;simp at hi;omega
  | some q'=>
   obtain⟨b,o'⟩:=q';simp only [ha]at hw2;obtain⟨a',cap,rfl,hlc,hcap,_⟩:=hw2;simp only [zai.off,zai.len]at*;have hc0:cap≠0:=by omega
   have:=hcap hc0;subst this;refine za0 p (zpb ho hu hs hq e2 h0 (by omega)) ?_;refine .eptr hl hb hv ⟨_,_,rfl⟩ fun _=>⟨b,o',ha,by omega,?_⟩;rw [hsz,Nat.add_mul,Nat.add_zero,Nat.add_assoc]
theorem zz7 (L:CLaws C) (p:Pre C μ H E h a w o) {T e:TypeId} {n:Nat} {x y:Operand} (ho:o.op= .indexAddr T x y) (hu:C.P.underlying T=some (.array n e)) {t:U.Ty} {xs:List (U.den t)} (hx:opv C E x= .rarr t xs) {k:IntKind} {i:Int}
 (hy:opv C E y= .sc (.int k i)) {z:U.den t} (hi:idx xs i=some z) (hs:zbh C e=some (C.En.sz t)) (hn:n=xs.length):zb3 C μ H E h a w o (.rptr (C.En.enc t z)) h:=by
 have hV:=hx▸p.ops x (by simp [ho,Op.operands])
 have e2:=(hy▸p.ops y (by simp [ho,Op.operands])).int
 obtain⟨h0,hlt,hz⟩:=z6u hi
 generalize hq:a.eval x=q at hV
 cases hV with
 | rarr g h1 h2=>
  rename_i b o';have hr:(execOp a.eval o).run C.P w= .ok (.value (.pointer (some ⟨b,o'+i.toNat*C.En.sz t,none⟩))) w:=by
   simp [execOp,ho,hq,e2,Instr.indexAt,asIntOf,run_underlying hu,h0,hn,hlt,zga hs,Addr.add_mid,Instr.sureAddr]
  refine za0 p hr ?_;refine .rptr (fun c hc=>L.e.fz _ _ _ hc) (fun j=>g i.toNat j) (fun j c hj=> ?_) (fun j c hj=>h2 _ _ hz j c hj);rw [Nat.add_assoc];exact h1 _ _ hz j c hj
theorem z1n (p:Pre C μ H E h a w o) {T e:TypeId} {n:Nat} {x y:Operand} (ho:o.op= .indexAddr T x y) (hu:C.P.underlying T=some (.array n e)) {key off:Nat} (hx:opv C E x= .ptr key off) {k:IntKind} {i:Int}
 (hy:opv C E y= .sc (.int k i)) (hs:zbh C e=some 1) (h0:0≤i) (hi:i<(n:Int)):zb3 C μ H E h a w o (.ixp key off n i.toNat) h:=by
 have hV:=hx▸p.ops x (by simp [ho,Op.operands])
 have e2:=(hy▸p.ops y (by simp [ho,Op.operands])).int
 generalize hq:a.eval x=q at hV
 cases hV with
 | ptr hl hb ha=>
  rename_i l b o';have hr:(execOp a.eval o).run C.P w= .ok (.value (.pointer (some ⟨b,o'+off+i.toNat,none⟩))) w:=by
   simp [execOp,ho,hq,e2,Instr.indexAt,asIntOf,run_underlying hu,h0,hi,zga hs,Addr.add_mid,Instr.sureAddr]
  exact za0 p hr (.ixp hl hb ha (by omega))
theorem zacb (p:Pre C μ H E h a w o) {c:Call} {x:Operand} (ho:o.op= .call c) (hc:c.callee= .builtin .len) (hargs:c.args.toList=[x]) {T:TypeId} (hT:c.argTypes[0]?=some T) {e:TypeId} (hu:C.P.underlying T=some (.slice e))
 {t:U.Ty} {xs:List (U.den t)} (hx:opv C E x= .lst t xs):zb3 C μ H E h a w o (.sc (.int .i64 xs.length)) h:=by
 have ha:c.args= #[x]:=by apply Array.ext';simpa using hargs
 have hV:=hx▸p.ops x (by simp [ho,Op.operands,Call.operands,hc,ha])
 generalize hq:a.eval x=q at hV
 cases hV with
 | lst hn hcap ha' g h1 h2=>
  subst hn;refine za0 p (cv:= .int .i64 xs.length) ?_ (.sc _);simp [execOp,ho,resolve,hc,ha,hq,invoke,builtin,Builtin.len_,hT,run_underlying hu,goInt]
theorem zacq {l:Loc} {ww:zai} {u:Value} (hh:zol l ww u):∃a cap,u= .slice a (ww.len l.len) cap∧ww.len l.len≤cap:=by
 obtain⟨hw1,hw2⟩:=hh
 cases ha:l.at_ with
 | none=>
  simp only [ha]at hw2;obtain⟨rfl,h0⟩:=hw2;have:ww.len l.len=0:=by rw [h0]at hw1⊢;omega
  exact⟨none,0,by rw [this],by omega⟩
 | some q=>
  obtain⟨b,o'⟩:=q;simp only [ha]at hw2;obtain⟨a',cap,rfl,hlc,_⟩:=hw2;exact⟨a',cap,rfl,hlc⟩
theorem zaca (p:Pre C μ H E h a w o) {c:Call} {x:Operand} (ho:o.op= .call c) (hc:c.callee= .builtin .len) (hargs:c.args.toList=[x]) {T:TypeId} (hT:c.argTypes[0]?=some T) {e:TypeId} (hu:C.P.underlying T=some (.slice e))
 {key ver:Nat} {ww:zai} (hx:opv C E x= .own key ver ww) {t:U.Ty} {xs:List (U.den t)} (hg:zc h key=some (.arr ver t xs)):zb3 C μ H E h a w o (.sc (.int .i64 (ww.len xs.length))) h:=by
 have ha:c.args= #[x]:=by apply Array.ext';simpa using hargs
 have hxm:x∈o.op.operands:=by simp [ho,Op.operands,Call.operands,hc,ha]
 have hV:=hx▸p.ops x hxm
 have hfoot:=p.foot key (zcr (by simp [zar,ho,hc]) hxm (by simp [hx,zdn,zc4]))
 generalize hq:a.eval x=q at hV
 cases hV with
 | own hl hb hv hpp hh=>
  obtain⟨ob,h1,h2⟩:=hfoot _ hl;rw [hg]at h1;cases h1;obtain⟨_,hver,hlen,hsz,hm⟩:=h2;obtain⟨a',cap,rfl,_⟩:=zacq (hh hver.symm);rw [hlen]at hq;refine za0 p (cv:= .int .i64 (ww.len xs.length)) ?_ (.sc _);simp [execOp,ho,resolve,hc,ha,hq,invoke,builtin,Builtin.len_,hT,run_underlying hu,goInt]
end
section
variable {U:Uni} {C:Ctx U} {μ:Mp} {H:Fz} {E:List (AV U)} {h h':za U} {a:Act} {w:World} {o:Oper} {v:AV U}
def bnd (C:Ctx U) (E:List (AV U)) (x:Option Operand) (d:Int):Option Int:=
 match x with
 | none=>some d
 | some y=>match opv C E y with
  | .sc (.int _ i)=>some i
  | _=>none
theorem zr1 (p:Pre C μ H E h a w o) {T:TypeId} {x:Operand} {lo hi:Option Operand} (ho:o.op= .slice T x lo hi none) {i j:Int} {len cap:Nat} (isSlice:Bool)
 (hlo:bnd C E lo 0=some i) (hhi:bnd C E hi len=some j) (h1:0≤i∧i≤j) (h2:0≤j∧j≤(cap:Int)) (hlc:len≤cap):
 (Instr.sliceBounds isSlice len cap (lo.map a.eval) (hi.map a.eval) none).run C.P w= .ok (i.toNat,j.toNat,cap) w:=by
 have key:∀y,(lo=some y∨hi=some y)→∀k n,opv C E y= .sc (.int k n)→a.eval y= .int k n:=by
  intro y hy k n hq;have hm:y∈o.op.operands:=by rcases hy with rfl|rfl<;>simp [ho,Op.operands]
  exact(hq▸p.ops y hm).int
 have hhr:∀code,(match hi.map a.eval with|some v=>Instr.sliceBound v cap code|none=>(pure len:Sem Nat)).run C.P w= .ok j.toNat w:=by
  intro code;cases hi with
  | none=>
   simp only [bnd,Option.some.injEq]at hhi;simp [←hhi]
  | some y=>
   simp only [bnd]at hhi;split at hhi
   · rename_i k n hq;cases hhi;have:=key y (.inr rfl) _ _ hq;simp [Instr.sliceBound,asIntOf,this,h2]
   · cases hhi
 have hlr:∀code,(match lo.map a.eval with|some v=>Instr.sliceBound v j.toNat code|none=>(pure 0:Sem Nat)).run C.P w= .ok i.toNat w:=by
  intro code;cases lo with
  | none=>
   simp only [bnd,Option.some.injEq]at hlo;simp [←hlo]
  | some y=>
   simp only [bnd]at hlo;split at hlo
   · rename_i k n hq;cases hlo;have:=key y (.inl rfl) _ _ hq;have hj:i≤((j.toNat:Nat):Int):=by omega
     simp only [Option.map_some,Instr.sliceBound,this];simp [asIntOf];omega
   · cases hlo
 unfold Instr.sliceBounds
 cases hq:hi.map a.eval with
 | none=>
  have h3:=hhr .sliceB;rw [hq]at h3;simp only at h3;cases hql:lo.map a.eval with
  | none=>
   have h4:=hlr .sliceB;rw [hql]at h4;simp only at h4;simp [h3,h4];simp at h3 h4;exact⟨h4,h3⟩
  | some u=>
   have h4:=hlr .sliceB;rw [hql]at h4;simp only at h4;simp at h3;simp [h3,h4]
 | some u'=>
  have h3:=hhr (if isSlice then .sliceAcap else .sliceAlen);rw [hq]at h3;simp only at h3;cases hql:lo.map a.eval with
  | none=>
   have h4:=hlr .sliceB;rw [hql]at h4;simp at h4;simp [h3,h4]
  | some u=>
   have h4:=hlr .sliceB;rw [hql]at h4;simp only at h4;simp [h3,h4]
theorem zzi (p:Pre C μ H E h a w o) {T:TypeId} {x:Operand} {lo hi:Option Operand} (ho:o.op= .slice T x lo hi none) (hu:C.P.underlying T=some .string) {s:ByteArray} (hx:opv C E x= .sc (.string s)) {i j:Int}
 (hlo:bnd C E lo 0=some i) (hhi:bnd C E hi s.size=some j) (h1:0≤i∧i≤j) (h2:0≤j∧j≤(s.size:Int)):zb3 C μ H E h a w o (.sc (.string (s.extract i.toNat j.toNat))) h:=by
 have e1:=(hx▸p.ops x (by simp [ho,Op.operands])).int
 have hb:=zr1 p ho false hlo hhi h1 h2 (Nat.le_refl _)
 refine za0 p (cv:= .string (s.extract i.toNat j.toNat)) ?_ (.sc _)
 simp [execOp,ho,e1,Instr.sliceAt,run_underlying hu,Instr.slice,hb]
theorem zxk {T e:TypeId} {x:Operand} {lo hi:Option Operand} (ho:o.op= .slice T x lo hi none) (hu:C.P.underlying T=some (.slice e)) {s:Nat} (hs:zbh C e=some s) {ad:Option Addr} {n cap:Nat} (hx:a.eval x= .slice ad n cap) {i j:Nat}
 (hb:(Instr.sliceBounds true n cap (lo.map a.eval) (hi.map a.eval) none).run C.P w= .ok (i,j,cap) w):
 (execOp a.eval o).run C.P w= .ok (.value (.slice (if cap=i then ad else ad.map (·.add (i*s))) (j-i) (cap-i))) w:=by
 simp [execOp,ho,hx,Instr.sliceAt,run_underlying hu,Instr.slice,hb,zga hs]
theorem zzk (p:Pre C μ H E h a w o) {T e:TypeId} {x:Operand} {lo hi:Option Operand} (ho:o.op= .slice T x lo hi none) (hu:C.P.underlying T=some (.slice e)) {t:U.Ty} {xs:List (U.den t)} (hx:opv C E x= .lst t xs)
 (hs:zbh C e=some (C.En.sz t)) {i j:Int} (hlo:bnd C E lo 0=some i) (hhi:bnd C E hi xs.length=some j) (h1:0≤i∧i≤j) (h2:0≤j∧j≤(xs.length:Int)) {ys:List (U.den t)}
 (hy:∀k z,ys[k]?=some z→xs[i.toNat+k]?=some z) (hyl:ys.length=j.toNat-i.toNat):zb3 C μ H E h a w o (.lst t ys) h:=by
 have hV:=hx▸p.ops x (by simp [ho,Op.operands])
 generalize hq:a.eval x=q at hV
 cases hV with
 | lst hn hcap ha g g1 g2=>
  rename_i ad n cap b o';subst hn;have hb:=zr1 p ho true hlo hhi h1 ⟨h2.1,by omega⟩ hcap;refine za0 p (zxk ho hu hs hq hb) ?_;refine .lst (b:=b) (o:=o'+i.toNat*C.En.sz t) hyl.symm (by omega) (fun hne=> ?_) (fun k m=>g (i.toNat+k) m) (fun k z hz m c hm=> ?_) (fun k z hz m c hm=>g2 _ _ (hy k z hz) m c hm)
  · have hxne:xs≠[]:=by
     intro h0;subst h0;cases ys with
     | nil=>exact hne rfl
     | cons z r=>have:=hy 0 z rfl;simp at this
    have:¬cap=i.toNat:=by
     intro he;have:ys.length=0:=by omega
     exact hne (List.eq_nil_of_length_eq_zero this)
    rw [if_neg this,ha hxne];simp [Addr.add_mid]
  · have:=g1 _ _ (hy k z hz) m c hm;rw [Nat.add_mul]at this;simpa only [Nat.add_assoc]using this
theorem zzj (p:Pre C μ H E h a w o) {T e:TypeId} {x:Operand} {lo hi:Option Operand} (ho:o.op= .slice T x lo hi none) (hu:C.P.underlying T=some (.slice e)) {key ver:Nat} (hx:opv C E x= .own key ver .full) {t:U.Ty} {xs:List (U.den t)}
 (hg:zc h key=some (.arr ver t xs)) (hs:zbh C e=some (C.En.sz t)) {i j:Int} (hlo:bnd C E lo 0=some i) (hhi:bnd C E hi xs.length=some j) (h1:0≤i∧i≤j) (h2:0≤j∧j≤(xs.length:Int)) {ww:zai}
 (hw1:ww.off=i.toNat) (hw2:ww.len xs.length=j.toNat-i.toNat):zb3 C μ H E h a w o (.own key ver ww) h:=by
 have hxm:x∈o.op.operands:=by simp [ho,Op.operands]
 have hV:=hx▸p.ops x hxm
 have hfoot:=p.foot key (zcr (by simp [zar,ho]) hxm (by simp [hx,zdn,zc4]))
 generalize hq:a.eval x=q at hV
 cases hV with
 | own hl hb' hv hpp hh=>
  rename_i l;obtain⟨ob,g1,g2⟩:=hfoot _ hl;rw [hg]at g1;cases g1;obtain⟨_,hver,hlen,hsz,hm⟩:=g2;obtain⟨f1,f2⟩:=hh hver.symm;cases ha:l.at_ with
  | none=>
   simp only [ha]at hm f2;obtain⟨rfl,h0⟩:=f2;have hx0:xs.length=0:=by omega
   have hb:=zr1 (cap:=0) p ho true hlo hhi h1 ⟨h2.1,by omega⟩ (by omega);have hj:j.toNat=0:=by omega
   have hi':i.toNat=0:=by omega
   rw [hx0]at hb;refine za0 p (zxk ho hu hs hq hb) (.own hl hb' hv ⟨_,_,_,rfl⟩ fun _=>⟨by rw [hlen];omega,?_⟩);simp only [ha];rw [hi',hj];exact⟨by simp,h0⟩
  | some q'=>
   obtain⟨b,o'⟩:=q';simp only [ha]at f2;obtain⟨ad,cap,rfl,hlc,hcap,hsize⟩:=f2;simp only [zai.len,zai.off,Nat.zero_mul,Nat.add_zero,Nat.zero_add]at hlc hcap hsize hq;rw [hlen]at hq hlc;have hb:=zr1 p ho true hlo hhi h1 ⟨h2.1,by omega⟩ hlc;refine za0 p (zxk ho hu hs hq hb) (.own hl hb' hv ⟨_,_,_,rfl⟩ fun _=>⟨by rw [hlen];omega,?_⟩);simp only [ha];refine⟨_,cap-i.toNat,by rw [hlen,hw2],by rw [hlen,hw2];omega,fun hne=> ?_,?_⟩
   · rw [if_neg (by omega),hcap (by omega),hw1,hsz];simp [Addr.add_mid]
   · rw [hw1];have:i.toNat+(cap-i.toNat)=cap:=by omega
     rw [this];exact hsize
theorem zmm {cs vs:List (AV U)} {off:Nat} (hle:off+vs.length≤cs.length):(zkb cs off vs).length=cs.length:=by
 simp [zkb]
 omega
theorem zl8 {cs vs:List (AV U)} {off:Nat} (hle:off+vs.length≤cs.length) (j:Nat):(zkb cs off vs)[j]?=if off≤j∧j<off+vs.length then vs[j-off]? else cs[j]?:=by
 have hm:min off cs.length=off:=by omega
 unfold zkb
 rw [List.getElem?_append,List.getElem?_append]
 simp only [List.length_append,List.length_take,hm,List.getElem?_take,List.getElem?_drop]
 by_cases h1:j<off
 · rw [if_pos (by omega),if_pos h1,if_pos h1,if_neg (by omega)]
 · by_cases h2:j<off+vs.length
   · rw [if_pos h2,if_neg h1,if_pos ⟨by omega,h2⟩]
   · rw [if_neg h2,if_neg (by omega)]
     congr 1
     omega
def zpa (En:Enc U) (μ:Mp) (H:Fz) (cs:List (AV U)) (us:Array Value):Prop:=cs.length=us.size∧∀j c,cs[j]?=some c→V En μ H c (us.getD j undef)
theorem zyl {u:Value} (h:u.oneCell'=true):u.cells= #[u]:=by cases u<;>first|rfl|cases h
theorem V.cells {En:Enc U} {av:AV U} {u:Value} (hV:V En μ H av u) (hp:av.plain=true):zpa En μ H av.cells u.cells:=by
 have one:∀(b:AV U),V En μ H b u→b.cells=[b]→u.cells= #[u]→zpa En μ H b.cells u.cells:=by
  intro b hb h1 h2;rw [h1,h2];exact⟨rfl,fun j c hc=>by cases j with
   | zero=>cases hc;exact hb
   | succ j=>simp at hc⟩
 cases hq:av with
 | agg cs=>subst hq;cases hV with|agg hn hv=>exact⟨hn,hv⟩
 | sc v=>
  subst hq;cases hV;exact one _ (.sc _) rfl (by cases u<;>first|rfl|cases hp)
 | dead=>subst hq;cases hp
 | tup vs=>subst hq;cases hp
 | _=>subst hq;exact one _ hV rfl (zyl (V.one rfl hV))
end
section
variable {U:Uni} {C:Ctx U} {μ:Mp} {H:Fz} {E:List (AV U)} {h h':za U} {a:Act} {w:World} {o:Oper} {v:AV U}
theorem zca (a b:Nat):Nat.beq a b=decide (a=b):=by
 cases hq:Nat.beq a b
 · have:¬a=b:=fun e=>by subst e;rw [Nat.beq_refl]at hq;cases hq
   simp [this]
 · simp [Nat.eq_of_beq_eq_true hq]
theorem zdx (h:za U) (k:Nat) (ob:Ob U) (k':Nat):zc (zed h k ob) k'=if k'=k then some ob else zc h k':=by
 induction h with
 | nil=>
  simp only [zed,zc,zca]
  by_cases e:k'=k<;>simp [e]
 | cons p h ih=>
  obtain⟨q,o'⟩:=p;simp only [zed,zca]
  by_cases e:k=q
  · subst e;simp only [decide_true,cond_true,zc,zca]
    by_cases e2:k'=k<;>simp [e2]
  · simp only [e,decide_false,cond_false,zc,zca,ih]
    by_cases e2:k'=q
    · subst e2;have e3:¬k'=k:=fun hh=>e hh.symm;simp [e3]
    · simp [e2]
def Mp.upd (μ:Mp) (k:Nat) (l:Loc):Mp:=fun k'=>if k'=k then some l else μ k'
theorem Mp.le_upd (μ:Mp) {k:Nat} (l:Loc) (hk:μ k=none):μ.le (μ.upd k l):=fun k' l' h=>by
 refine⟨l',?_,.inl rfl⟩
 unfold Mp.upd
 rw [if_neg (fun e=>by subst e;rw [hk]at h;cases h)]
 exact h
theorem znz (w:World) (c:Array Value) (t:TypeId) (fz:Nat × Nat) (o:Nat):(w.alloc (.cells c t fz)).cell? ⟨w.heap.size,o,none⟩=c[o]?:=by
 unfold World.alloc World.cell?
 simp
theorem zso (w:World) (c:Array Value) (t:TypeId) (fz:Nat × Nat) (o:Nat) (h:¬(fz.1≤o∧o<fz.2)):(w.alloc (.cells c t fz)).frozen? ⟨w.heap.size,o,none⟩=false:=by
 unfold World.alloc World.frozen?
 obtain⟨x,y⟩:=fz
 simp at h⊢
 exact h
theorem zom (w:World) (ob:Obj):Wd (fun _ _=>False) w (w.alloc ob) where
 os:=rfl
 tape:=rfl
 output:=rfl
 size:=by unfold World.alloc;simp
 keep:=fun b hb=> .inl (by unfold World.alloc;simp [Array.getElem?_push,Nat.ne_of_lt hb])
theorem zady (hm:Mem μ H w) {k:Nat} (hk:μ k=none) (hh:zc h k=none) {w1:World} (hw1:Wd (fun _ _=>False) w w1) {c:Array Value} {t:TypeId} {fz:Nat × Nat} {l:Loc} {ob:Ob U} (hat:l.at_=some (w1.heap.size,0)) (hsz:l.size≤c.size)
 (hob:zcl C.En (μ.upd k l) H (w1.alloc (.cells c t fz)) l ob):
 After C zup μ H h w (zed h k ob) (μ.upd k l) H (w1.alloc (.cells c t fz)):=by
 have hwd:Wd (fun _ _=>False) w (w1.alloc (.cells c t fz)):=hw1.trans (zom w1 _)
 have hholds:∀b o,l.holds b o→b=w1.heap.size:=fun b o ⟨o0,h1,_,_⟩=>by rw [hat]at h1;cases h1;rfl
 refine {
  leH:=H.le_refl
  leM:=μ.le_upd l hk
  mem:={
   frz:=fun b o v hv=>by rw [hwd.cell (zgo (hm.frz b o v hv)) (by simp)];exact hm.frz b o v hv
   apart:= ?_
   free:= ?_
   inside:= ?_}
  wd:=hwd.weaken fun _ _ _ hf=>hf.elim
  same:=fun k' _ hn=> ?_
  objs:=fun k' l' hc hl=> ?_
  frzNew:=fun b o hb=> .inl hb
  locNew:=fun k' l' b o hl hb=> ?_}
 · intro k1 k2 l1 l2 b o h1 h2 g1 g2;unfold Mp.upd at h1 h2;split at h1<;>split at h2
   · simp_all
   · cases h1;have:=hm.inside _ _ _ _ h2 g2;have:=hholds _ _ g1;have:=hw1.size;omega
   · cases h2;have:=hm.inside _ _ _ _ h1 g1;have:=hholds _ _ g2;have:=hw1.size;omega
   · exact hm.apart _ _ _ _ _ _ h1 h2 g1 g2
 · intro k1 l1 b o h1 g1;unfold Mp.upd at h1;split at h1
   · cases h1;have:=hholds _ _ g1;cases hq:H b o with
     | none=>rfl
     | some v=>
      have:=zgo (hm.frz _ _ _ hq);have:=hw1.size;simp only at*;omega
   · exact hm.free _ _ _ _ h1 g1
 · intro k1 l1 b o h1 g1;have:w1.heap.size<(w1.alloc (.cells c t fz)).heap.size:=by unfold World.alloc;simp
   unfold Mp.upd at h1;split at h1
   · cases h1;have:=hholds _ _ g1;omega
   · have:=hm.inside _ _ _ _ h1 g1;have:=hw1.size;omega
 · have e:¬k'=k:=fun e=>hn (by subst e;exact⟨hh,by rw [zdx];simp⟩);exact⟨by simp [Mp.upd,e],by rw [zdx];simp [e]⟩
 · rcases hc with hc|⟨h1,h2⟩
   · exact hc.elim
   · rw [zdx]at h2⊢
     by_cases e:k'=k
     · subst e;simp only [Mp.upd,if_true]at hl;cases hl;exact⟨ob,by simp,hob⟩
     · simp [e,h1]at h2
 · unfold Mp.upd at hl;split at hl
   · cases hl;have:=hholds _ _ hb;have:=hw1.size;exact .inr (.inl (by omega))
   · exact .inl ⟨l',hl,hb⟩
theorem Pre.foot' (L:ELaws C.En) (p:Pre C μ H E h a w o) {h':za U} {μ':Mp} {H':Fz} {w':World} (hf:After C zup μ H h w h' μ' H' w') {k:Nat} {l':Loc} (hk:k∈zby C E h o) (hl:μ' k=some l'):
 ∃ob,zc h' k=some ob∧zcl C.En μ' H' w' l' ob:=by
 by_cases hn:zc h k=none∧zc h' k≠none
 · exact hf.objs k l' (.inr hn) hl
 · obtain⟨e1,e2⟩:=hf.same k (fun x=>x) hn;rw [e1]at hl;obtain⟨ob,h1,h2⟩:=p.foot k hk l' hl;exact⟨ob,by rw [e2];exact h1,h2.keep L (hf.wd.weaken fun _ _ _ ⟨_,_,hx,_⟩=>hx.elim) hf.leH hf.leM (fun _ _ _ hx=>hx)⟩
theorem zq2 (L:ELaws C.En) (p:Pre C μ H E h a w o) {k:Nat} {ob:Ob U} (hk:μ k=none) (hh:zc h k=none) {w1:World} (hw1:Wd (fun _ _=>False) w w1) {c:Array Value} {t:TypeId} {fz:Nat × Nat} {l:Loc} {cv:Value}
 (hr:(execOp a.eval o).run C.P w= .ok (.value cv) (w1.alloc (.cells c t fz))) (hat:l.at_=some (w1.heap.size,0)) (hsz:l.size≤c.size)
 (hob:zcl C.En (μ.upd k l) H (w1.alloc (.cells c t fz)) l ob) (hv:V C.En (μ.upd k l) H v cv):zb3 C μ H E h a w o v (zed h k ob):=fun next Q hn=>by
 have ha:=zady p.mem hk hh hw1 hat hsz hob
 exact zm5 hr (hn cv _ H _ hv (ha.weaken (fun k hk=>hk.elim) fun k' l' hk' _ hl=>p.foot' L ha hk'.2.1 hl))
theorem Mp.upd_self (μ:Mp) (k:Nat) (l:Loc):μ.upd k l k=some l:=by simp [Mp.upd]
theorem z3x {cs:List (AV U)} {us:Array Value} {μ':Mp} (hc:zpa C.En μ' H cs us) (w1:World) (t:TypeId):zcl C.En μ' H (w1.alloc (.cells us t (0,0))) ⟨true,some (w1.heap.size,0),0,0,0,us.size⟩ (.box cs):=by
 refine⟨rfl,rfl,w1.heap.size,0,rfl,hc.1.symm,fun j c hj=>⟨us.getD j undef,?_,?_,hc.2 j c hj⟩⟩
 · rw [Nat.zero_add,znz];have:j<us.size:=by rw [←hc.1];exact(gea hj).1
   simp [Array.getD,this]
 · exact zso _ _ _ _ _ (by simp)
theorem zo3 (L:ELaws C.En) {t:U.Ty} {xs:List (U.den t)} {us:Array Value} {μ':Mp} (hs:xs.length*C.En.sz t≤us.size) (hc:∀i x,xs[i]?=some x→∀j c,(C.En.enc t x)[j]?=some c→V C.En μ' H c (us.getD (i*C.En.sz t+j) undef)) (w1:World) (T:TypeId) (fz:Nat × Nat)
 (hfz:∀j,j<us.size→¬(fz.1≤j∧j<fz.2)) (ver:Nat):zcl C.En μ' H (w1.alloc (.cells us T fz)) ⟨false,some (w1.heap.size,0),ver,xs.length,C.En.sz t,us.size⟩ (.arr ver t xs):=by
 refine⟨rfl,rfl,rfl,rfl,hs,fun j hj=>⟨?_,?_⟩,fun i x hx j c hj=>⟨us.getD (i*C.En.sz t+j) undef,?_,hc i x hx j c hj⟩⟩
 · rw [Nat.zero_add,znz];simpa using hj
 · rw [Nat.zero_add];exact zso _ _ _ _ _ (hfz j hj)
 · rw [Nat.zero_add,znz];have h1:=(gea hx).1;have h2:=(gea hj).1;rw [L.sz]at h2;have:=zmo h1 h2;have:i*C.En.sz t+j<us.size:=by omega
   simp [Array.getD,this]
theorem zjy {T:TypeId} {zs:List (AV U)} (hz:zel C T=some zs):∃i z,C.P.info? T=some i∧i.zero=some z∧zs=z.cells.toList.map .sc:=by
 unfold zel at hz
 cases hi:C.P.info? T with
 | none=>simp [hi]at hz
 | some i=>
  simp only [hi,oma]at hz;obtain⟨z,h1,h2⟩:=hz;exact⟨i,z,rfl,h1,h2.symm⟩
theorem zr0 (us:Array Value) (μ':Mp) (H':Fz):zpa C.En μ' H' (us.toList.map AV.sc) us:=by
 refine⟨by simp,fun j c hj=> ?_⟩
 rw [gem,oma]at hj
 obtain⟨u,hu,rfl⟩:=hj
 have:us.getD j undef=u:=by
  rw [Array.getElem?_toList]at hu;simp [agd,hu]
 rw [this]
 exact .sc u
theorem zagn (L:ELaws C.En) (p:Pre C μ H E h a w o) {T:TypeId} (ho:o.op= .alloc T) {zs:List (AV U)} (hz:zel C T=some zs) {d:Nat} (hk:μ d=none) (hh:zc h d=none):
 zb3 C μ H E h a w o (.ptr d 0) (zed h d (.box zs)):=by
 obtain⟨i,z,h1,h2,rfl⟩:=zjy hz
 refine zq2 L p hk hh (Wd.refl _ w) (c:=z.cells) (t:=T) (fz:=(0,0)) (l:=⟨true,some (w.heap.size,0),0,0,0,z.cells.size⟩) (cv:= .pointer (some ⟨w.heap.size,0,none⟩)) ?_ rfl (Nat.le_refl _) (z3x (zr0 _ _ _) w T) ?_
 · simp [execOp,ho,Instr.alloc,zeroValue,typeInfo,h1,h2,newVar,newRow]
 · exact .ptr (Mp.upd_self _ _ _) rfl rfl
theorem zakq (L:ELaws C.En) (p:Pre C μ H E h a w o) {T:TypeId} {x:Operand} (ho:o.op= .box T x) (hx:(opv C E x).plain=true) {d:Nat} (hk:μ d=none) (hh:zc h d=none):
 zb3 C μ H E h a w o (.ptr d 0) (zed h d (.box (opv C E x).cells)):=by
 have hV:=p.ops x (by simp [ho,Op.operands])
 have hc:=V.cells (hV.mono H.le_refl (μ.le_upd ⟨true,some (w.heap.size,0),0,0,0,(a.eval x).cells.size⟩ hk)) hx
 refine zq2 L p hk hh (Wd.refl _ w) (c:=(a.eval x).cells) (t:=T) (fz:=(0,0)) (cv:= .pointer (some ⟨w.heap.size,0,none⟩)) ?_ rfl (Nat.le_refl _) (z3x hc w T) ?_
 · simp [execOp,ho,Instr.box,newVar,newRow]
 · exact .ptr (Mp.upd_self _ _ _) rfl rfl
theorem V.ref {c c':AV U} {u:Value} (hV:V C.En μ H c u) (hr:Ref c c'):V C.En μ H c' u:=by
 rcases hr with rfl|⟨rfl,t,rfl⟩
 · exact hV
 · cases hV;exact .lst (b:=0) (o:=0) rfl (Nat.le_refl _) (fun hh=>absurd rfl hh) (fun _ _=>undef) (fun i x hx=>by simp at hx) (fun i x hx=>by simp at hx)
theorem zym (s:ByteArray):(zjc s).length=s.size:=by
 unfold zjc
 rw [List.length_map,Array.length_toList]
 rfl
theorem zago:zae=70368744177664:=by unfold zae;rfl
theorem zsb {e:TypeId} {n:Nat} {i:TypeInfo} (hi:C.P.info? e=some i) (hr:zh5 C e n=true):n*i.bytes≤70368744177664∧n≤70368744177664∧∃z,i.zero=some z∧z.cells.size=i.size:=by
 unfold zh5 at hr
 rw [hi,zago]at hr
 obtain⟨h2,h1⟩:=(baa _ _).mp hr
 obtain⟨h2,h3⟩:=(baa _ _).mp h2
 have hb:=Nat.le_of_ble_eq_true h2
 have hm:=Nat.le_of_ble_eq_true h1
 have:n*1≤n*i.bytes:=Nat.mul_le_mul_left n hb
 refine⟨hm,by omega,?_⟩
 cases hz:i.zero with
 | none=>rw [hz]at h3;cases h3
 | some z=>rw [hz]at h3;exact⟨z,rfl,Nat.eq_of_beq_eq_true h3⟩
theorem z6q (z:Array Value) (n i j:Nat) (hj:j<z.size) (hi:i<n):(madeCells z (n*z.size)).getD (i*z.size+j) undef=z.getD j undef:=by
 have hlt:=zmo hi hj
 have hm:(i*z.size+j)%z.size=j:=by rw [Nat.mul_comm,Nat.mul_add_mod,Nat.mod_eq_of_lt hj]
 simp [madeCells,Array.getD,hlt,hm,hj]
theorem z8s (L:ELaws C.En) (p:Pre C μ H E h a w o) {T e:TypeId} {x y:Operand} (ho:o.op= .makeSlice T x y) (hu:C.P.underlying T=some (.slice e)) {t:U.Ty} (hs:zbh C e=some (C.En.sz t)) {zs:List (AV U)} (hz:zel C e=some zs) {z:U.den t}
 (hre:C.En.reify t zs=some z) {d:Nat} (hk:μ d=none) (hh:zc h d=none) {n m:Int} (hx:opv C E x= .sc (.int .i64 n)) (hy:opv C E y= .sc (.int .i64 m)) (h0:0≤n) (hnm:n≤m) (hr:zh5 C e m.toNat=true):
 zb3 C μ H E h a w o (.own d 0 .full) (zed h d (.arr 0 t (List.replicate n.toNat z))):=by
 have e1:=(hx▸p.ops x (by simp [ho,Op.operands])).int
 have e2:=(hy▸p.ops y (by simp [ho,Op.operands])).int
 obtain⟨i,zv,h1,h2,rfl⟩:=zjy hz
 obtain⟨r1,r2,_⟩:=zsb h1 hr
 obtain⟨hzl,hzr⟩:=L.reify t _ _ hre
 have hsz:i.size=C.En.sz t:=by simpa [zbh,h1]using hs
 have hzs:zv.cells.size=C.En.sz t:=by simpa using hzl
 have hb:(i.bytes:Int)*m≤281474976710656:=by
  have:((m.toNat*i.bytes:Nat):Int)≤((70368744177664:Nat):Int):=Int.ofNat_le.2 r1;have hm:(m.toNat:Int)=m:=by omega
  rw [Int.natCast_mul,hm,Int.mul_comm]at this;omega
 have hrun:=run_make (P:=C.P) w T e i zv hu h1 h2 .i64 .i64 n m h0 hnm hb (by omega)
 have hc:(madeCells zv.cells (m.toNat*i.size)).size=m.toNat*C.En.sz t:=by rw [size_madeCells,hsz]
 have hle:n.toNat*C.En.sz t≤m.toNat*C.En.sz t:=Nat.mul_le_mul_right _ (by omega)
 refine zq2 L p hk hh (Wd.refl _ w) (c:=madeCells zv.cells (m.toNat*i.size)) (t:=e) (fz:=(0,0)) (l:=⟨false,some (w.heap.size,0),0,(List.replicate n.toNat z).length,C.En.sz t,(madeCells zv.cells (m.toNat*i.size)).size⟩)
  (cv:= .slice (some ⟨w.heap.size,0,none⟩) n.toNat m.toNat) ?_ rfl (Nat.le_refl _) (zo3 L (by rw [hc];simpa using hle) (fun q x' hq j c hj=> ?_) w e (0,0) (by simp) 0) ?_
 · simp [execOp,ho,e1,e2,hrun]
 · have hql:=(gea hq).1;rw [List.length_replicate]at hql;have hx':x'=z:=by
    rw [List.getElem?_replicate,if_pos hql]at hq;exact(Option.some.inj hq).symm
   subst hx';have hjl:=(gea hj).1;rw [L.sz]at hjl;have hg:=z6q zv.cells m.toNat q j (by omega) (by omega);rw [hzs,←hsz]at hg;rw [←hsz,hg];have hjz:j<zv.cells.size:=by omega
   have hcz:(zv.cells.toList.map (AV.sc (U:=U)))[j]?=some (.sc (zv.cells.getD j undef)):=by
    simp [Array.getD,hjz]
   exact V.ref (.sc _) (hzr j _ c hcz hj)
 · refine .own (Mp.upd_self _ _ _) rfl (Nat.le_refl _) ⟨_,_,_,rfl⟩ fun _=> ?_;refine⟨by simp [zai.off,zai.len],?_⟩;refine⟨some ⟨w.heap.size,0,none⟩,m.toNat,by simp [zai.len],by simp [zai.len];omega,fun _=>by simp [zai.off],?_⟩;rw [hc];simp [zai.off]
theorem zagl (L:ELaws C.En) (p:Pre C μ H E h a w o) {src dst e:TypeId} {x:Operand} (ho:o.op= .convert src dst x) (hu:C.P.underlying src=some .string) (hu2:C.P.underlying dst=some (.slice e)) (hu3:C.P.underlying e=some (.int .u8))
 (hs1:C.En.sz C.En.u8=1) {s:ByteArray} (hx:opv C E x= .sc (.string s)) {d:Nat} (hk:μ d=none) (hh:zc h d=none):
 zb3 C μ H E h a w o (.own d 0 .full) (zed h d (.arr 0 C.En.u8 (C.En.ofInts (zjc s)))):=by
 have e1:=(hx▸p.ops x (by simp [ho,Op.operands])).int
 have hrun:=run_bytes_of_string (P:=C.P) w src dst e s hu hu2 hu3
 have hge:=grownCap_ge w s.size 0 e
 have hsize:(bytesRow s (grownCap w s.size 0 e)).size=grownCap w s.size 0 e:=by simp [bytesRow];omega
 refine zq2 L p hk hh (Wd.draw _ w (w.drawn+1)) (c:=bytesRow s (grownCap w s.size 0 e)) (t:=e) (fz:=((bytesRow s (grownCap w s.size 0 e)).size,(bytesRow s (grownCap w s.size 0 e)).size+1)) (l:=⟨false,some (w.heap.size,0),0,(C.En.ofInts (zjc s)).length,C.En.sz C.En.u8,(bytesRow s (grownCap w s.size 0 e)).size⟩)
  (cv:= .slice (some ⟨w.heap.size,0,none⟩) s.size (grownCap w s.size 0 e)) ?_ rfl (Nat.le_refl _) (zo3 L ?_ (fun q x' hq j c hj=> ?_) w.drew e _ (by simp;omega) 0) ?_
 · simp [execOp,ho,e1,hrun]
 · rw [L.ofIntsLen,zym,hs1,hsize];omega
 · have hql:=(gea hq).1;rw [L.ofIntsLen,zym]at hql;have hli:(zjc s)[q]?=some ((s.data.getD q 0).toNat:Int):=by
    have:q<s.data.size:=hql;unfold zjc;rw [gem,Array.getElem?_toList,agd,Array.getElem?_eq_getElem this];rfl
   obtain⟨x2,hx2,he2⟩:=L.ofInts _ _ _ hli;rw [hx2]at hq;cases hq;rw [he2]at hj;cases j with
   | succ j=>simp at hj
   | zero=>
    cases hj;have:(bytesRow s (grownCap w s.size 0 e)).getD (q*C.En.sz C.En.u8+0) undef= .int .u8 ((s.data.getD q 0).toNat:Int):=by
     have:q<s.data.size:=hql;have h3:q<s.data.size+(grownCap w s.size 0 e-s.size):=by omega
     rw [hs1,Nat.mul_one,Nat.add_zero];unfold bytesRow;rw [agd,Array.getElem?_append_left (by rw [Array.size_map];exact this),Array.getElem?_map,Array.getElem?_eq_getElem this,agd,Array.getElem?_eq_getElem this];rfl
    rw [this];exact .sc _
 · refine .own (Mp.upd_self _ _ _) rfl (Nat.le_refl _) ⟨_,_,_,rfl⟩ fun _=> ?_;have hl:(C.En.ofInts (zjc s)).length=s.size:=by rw [L.ofIntsLen,zym]
   refine⟨by simp [zai.off,zai.len],?_⟩;exact⟨some ⟨w.heap.size,0,none⟩,grownCap w s.size 0 e,by simp [zai.len,hl],by simp [zai.len,hl];omega,fun _=>by simp [zai.off],by simp [zai.off,hs1,hsize]⟩
end
section
variable {U:Uni} {C:Ctx U} {μ:Mp} {H:Fz} {E:List (AV U)} {h h':za U} {a:Act} {w:World} {o:Oper} {v:AV U}
theorem zrx {En:Enc U} (place place':Nat→Option (Nat × Nat)) (hpl:∀i q,place i=some q→place' i=some q):
 ∀(ps:List (Nat × AV U)) (ps':List (Nat × Value)) (cs cs':List (AV U)) (us:Array Value),ps.length=ps'.length→
  (∀(j:Nat) (p:Nat × AV U) (p':Nat × Value),ps[j]?=some p→ps'[j]?=some p'→p.1=p'.1∧V En μ H p.2 p'.2)→zpa En μ H cs us→ztd place ps cs=some cs'→
  ∃us',Instr.fill place' us ps'=some us'∧zpa En μ H cs' us'
 | [],[],cs,cs',us,_,_,hc,hf=>by
  cases hf;exact⟨us,rfl,hc⟩
 | [],_::_,_,_,_,hl,_,_,_=>by simp at hl
 | _::_,[],_,_,_,hl,_,_,_=>by simp at hl
 | (i,v)::ps,(i',v')::ps',cs,cs',us,hl,hp,hc,hf=>by
  obtain⟨h1,hV⟩:=hp 0 _ _ rfl rfl;simp only at h1 hV;subst h1;simp only [ztd]at hf;cases hq:place i with
  | none=>simp [hq]at hf
  | some q=>
   obtain⟨off,s⟩:=q;simp only [hq]at hf;cases hb:(v.plain&&(Nat.beq s v.cells.length&&Nat.ble (off+s) cs.length))with
   | false=>rw [hb]at hf;cases hf
   | true=>
    rw [hb]at hf;simp only [cond_true]at hf;simp only [baa,zca,decide_eq_true_eq]at hb;obtain⟨hpl1,hs,hle⟩:=hb;have hle:=Nat.le_of_ble_eq_true hle;obtain⟨hvl,hvc⟩:=V.cells hV hpl1;obtain⟨g1,g2⟩:=Great.foldl_set off v'.cells.toList 0 us;have hc2:zpa En μ H (zkb cs off v.cells) ((v'.cells.toList.zipIdx 0).foldl (fun cs (x:Value × Nat)=>cs.setIfInBounds (off+x.2) x.1) us):=by
     refine⟨by rw [zmm (by omega),g1,hc.1],fun j c hj=> ?_⟩;rw [zl8 (by omega)]at hj;rw [agd,g2 j];simp only [Nat.add_zero,Array.length_toList]
     by_cases hin:off≤j∧j<off+v.cells.length
     · rw [if_pos hin]at hj;rw [if_pos ⟨hin.1,by omega,by have:=hc.1;omega⟩];have:=hvc _ _ hj;rw [agd]at this;rw [Array.getElem?_toList];exact this
     · rw [if_neg hin]at hj;rw [if_neg (by omega)];have:=hc.2 _ _ hj;rw [agd]at this;exact this
    obtain⟨us',r1,r2⟩:=zrx place place' hpl ps ps' _ _ _ (by simpa using hl) (fun j p p' e1 e2=>hp (j+1) p p' (by simpa using e1) (by simpa using e2)) hc2 hf;refine⟨us',?_,r2⟩;unfold Instr.fill;simp only [hpl _ _ hq];rw [if_neg (by have:=hc.1;simp;omega)];rw [←r1]
    congr 1
    rw [←Array.foldl_toList,Array.toList_zipIdx]
theorem z6h (p:Pre C μ H E h a w o) {parts:Array (Nat × Operand)} (hm:∀x∈parts.toList,x.2∈o.op.operands):
 ∀(j:Nat) (q:Nat × AV U) (q':Nat × Value),(parts.toList.map fun p=>(p.1,opv C E p.2))[j]?=some q→((parts.map fun(i,x)=>(i,a.eval x)).toList)[j]?=some q'→q.1=q'.1∧V C.En μ H q.2 q'.2:=by
 intro j q q' h1 h2
 rw [Array.toList_map,gem,oma]at h2
 rw [gem,oma]at h1
 obtain⟨x,hx,rfl⟩:=h1
 obtain⟨x',hx',rfl⟩:=h2
 rw [hx]at hx'
 cases hx'
 exact⟨rfl,p.ops _ (hm _ (lma hx))⟩
theorem z3w:∀(fs:List Field),(fs.all fun f=>(zbh C f.type).isSome)=true→∃pl,fs.mapM (fun f=>(C.P.info? f.type).map fun i=>(f.offset,i.size))=some pl∧
 ∀i:Nat,pl[i]?=(match fs[i]? with|some f=>(zbh C f.type).map fun s=>(f.offset,s)|none=>none)
 | [],_=>⟨[],rfl,fun i=>by simp⟩
 | f::fs,h=>by
  simp only [List.all_cons,baa]at h;obtain⟨s,hs⟩:=Option.isSome_iff_exists.1 h.1;obtain⟨pl,h1,h2⟩:=z3w fs h.2;have hs':(C.P.info? f.type).map (fun i=>(f.offset,i.size))=some (f.offset,s):=by
   unfold zbh at hs;cases hi:C.P.info? f.type with
   | none=>simp [hi]at hs
   | some i=>simp [hi]at hs;simp [hs]
  refine⟨(f.offset,s)::pl,by simp [List.mapM_cons,hs',h1],fun i=> ?_⟩;cases i with
  | zero=>simp [hs]
  | succ i=>simpa using h2 i
theorem zagm (p:Pre C μ H E h a w o) {t:TypeId} {parts:Array (Nat × Operand)} (ho:o.op= .build t parts) {v:AV U} (hb:zu2 C t (parts.toList.map fun p=>(p.1,opv C E p.2)) (fun v=>some v)=some v):zb3 C μ H E h a w o v h:=by
 have hm:∀x∈parts.toList,x.2∈o.op.operands:=by
  intro x hx;rw [ho];simp only [Op.operands];exact List.mem_toArray.2 (List.mem_map.2 ⟨x,hx,rfl⟩)
 have hps:=z6h p hm
 have hlen:(parts.toList.map fun p=>(p.1,opv C E p.2)).length=((parts.map fun(i,x)=>(i,a.eval x)).toList).length:=by simp
 have key:∃cs us,v= .agg cs∧C.P.built t (parts.map fun(i,x)=>(i,a.eval x)).toList=some us∧zpa C.En μ H cs us:=by
  unfold zu2 at hb;cases hz:zel C t with
  | none=>rw [hz]at hb;split at hb<;>simp_all
  | some zs=>
   obtain⟨i,z,h1,h2,rfl⟩:=zjy hz;rw [hz]at hb;unfold Program.built;cases hu:C.P.underlying t with
   | none=>rw [hu]at hb;simp at hb
   | some d=>
    rw [hu]at hb;cases d with
    | struct fs=>
     simp only at hb;cases hall:(fs.toList.all fun f=>(zbh C f.type).isSome)with
     | false=>rw [hall]at hb;cases hb
     | true=>
      rw [hall]at hb;simp only [cond_true]at hb;obtain⟨pl,q1,q2⟩:=z3w fs.toList hall;split at hb
      · rename_i cs hf;cases hb;obtain⟨us,r1,r2⟩:=zrx _ (fun i=>pl.toArray[i]?) (fun i q hh=>by
         have:=q2 i;rw [show fs.toList[i]?=fs[i]? from Array.getElem?_toList]at this;have e2:pl.toArray[i]?=pl[i]?:=by simp
         refine Eq.trans e2 ?_;rw [this];exact hh) _ _ _ _ _ hlen hps (zr0 z.cells μ H) hf
        exact⟨cs,us,rfl,by simp only [h1,h2,q1];exact r1,r2⟩
      · cases hb
    | array n e=>
     simp only at hb;cases hs:zbh C e with
     | none=>simp [hs]at hb
     | some s=>
      simp only [hs]at hb;cases hf:ztd (fun i=>some (i*s,s)) (parts.toList.map fun p=>(p.1,opv C E p.2)) (z.cells.toList.map .sc)with
      | none=>simp [hf]at hb
      | some cs=>
       simp only [hf,Option.some.injEq]at hb;cases hie:C.P.info? e with
       | none=>simp [zbh,hie]at hs
       | some ie=>
        have:ie.size=s:=by simpa [zbh,hie]using hs
        subst this;obtain⟨us,r1,r2⟩:=zrx _ (fun i=>some (i*ie.size,ie.size)) (fun _ _ h=>h) _ _ _ _ _ hlen hps (zr0 z.cells μ H) hf;exact⟨cs,us,hb.symm,by simp only [h1,h2,hie];exact r1,r2⟩
    | _=>simp at hb
 obtain⟨cs,us,rfl,hbu,hc⟩:=key
 refine za0 p (cv:= .agg us) ?_ (.agg hc.1 hc.2)
 simp [execOp,ho,run_build w t _ us hbu]
def zqk (En:Enc U) (μ:Mp) (H:Fz) (w:World) (t:U.Ty) (xs:List (U.den t)) (v:Value):Prop:=
 ∃ad cap b o,v= .slice ad xs.length cap∧xs.length≤cap∧(xs≠[]→ad=some ⟨b,o,none⟩)∧
  ∀i x,xs[i]?=some x→∀j c,(En.enc t x)[j]?=some c→∃cv,w.cell? ⟨b,o+(i*En.sz t+j),none⟩=some cv∧V En μ H c cv
theorem zadc {t:U.Ty} {xs:List (U.den t)} {u:Value} (hm:Mem μ H w) (hV:V C.En μ H (.lst t xs) u):zqk C.En μ H w t xs u:=by
 cases hV with
 | lst hn hcap ha g h1 h2=>
  subst hn;exact⟨_,_,_,_,rfl,hcap,ha,fun i x hx j c hj=>⟨g i j,hm.frz _ _ _ (h1 i x hx j c hj),h2 i x hx j c hj⟩⟩
theorem zth {key ver:Nat} {ww:zai} {l:Loc} {t:U.Ty} {xs:List (U.den t)} {u:Value} (ho:zcl C.En μ H w l (.arr ver t xs)) (hl:μ key=some l) (hV:V C.En μ H (.own key ver ww) u):zqk C.En μ H w t (zbu ww xs) u:=by
 cases hV with
 | own hl' hb hv hpp hh=>
  rw [hl]at hl';cases hl';obtain⟨_,hver,hlen,hsz,hm⟩:=ho;obtain⟨f1,f2⟩:=hh hver.symm;rw [hlen]at f1;have hvl:=ww.of_length xs f1;cases ha:l.at_ with
  | none=>
   simp only [ha]at hm f2;obtain⟨rfl,h0⟩:=f2;obtain⟨rfl,_⟩:=hm;have hv0:zbu ww ([]:List (U.den t))=[]:=by cases ww<;>simp [zbu]
   rw [hv0];exact⟨none,0,0,0,rfl,Nat.le_refl _,fun hh=>absurd rfl hh,fun i x hx=>by simp at hx⟩
  | some q=>
   obtain⟨b,o'⟩:=q;simp only [ha]at f2 hm;obtain⟨ad,cap,rfl,hlc,hcap,hsize⟩:=f2;rw [hlen,←hvl]at hlc⊢;refine⟨ad,cap,b,o'+ww.off*l.sz,rfl,hlc,fun hne=>hcap ?_,fun i x hx j c hj=> ?_⟩
   · intro h0;subst h0;exact hne (List.eq_nil_of_length_eq_zero (by omega))
   · obtain⟨_,_,hcs⟩:=hm;obtain⟨cv,h1,h2⟩:=hcs _ _ (ww.of_get xs i x hx) j c hj;refine⟨cv,?_,h2⟩;rw [hsz,←h1]
     congr 2
     rw [Nat.add_mul];omega
theorem zrb {t:U.Ty} (xs:List (U.den t)):zwo ⟨rfl⟩ xs=xs:=rfl
theorem zqw {av:AV U} {u:Value} {t:U.Ty} {ys:List (U.den t)} (hm:Mem μ H w) (hf:∀k,k∈zdn av→∀l,μ k=some l→∃ob,zc h k=some ob∧zcl C.En μ H w l ob)
 (hV:V C.En μ H av u) (he:zly h t av=some ys):zqk C.En μ H w t ys u:=by
 unfold zly at he
 cases av with
 | lst t' xs=>
  simp only [zem]at he;cases hq:U.eqTy t' t with
  | none=>simp [hq]at he
  | some e=>
   obtain⟨e⟩:=e;subst e;simp only [hq,Option.map_some,zrb,Option.some.injEq]at he;subst he;exact zadc hm hV
 | own k ver ww=>
  simp only [zem]at he;have hV':=hV;cases hV with
  | own hl hb hv hpp hh=>
   obtain⟨ob,h1,h2⟩:=hf k (by simp [zdn,zc4]) _ hl;rw [h1]at he;cases ob with
   | box cs=>simp at he
   | arr ver' t' xs=>
    simp only [zca]at he
    by_cases e2:ver=ver'
    · subst e2;simp only [decide_true,cond_true]at he;cases hq:U.eqTy t' t with
      | none=>simp [hq]at he
      | some e=>
       obtain⟨e⟩:=e;subst e;simp only [hq,Option.map_some,zrb,Option.some.injEq]at he;subst he;exact zth h2 hl hV'
    · simp [e2]at he
 | sc v'=>
  simp only [zem]at he;have:v'= .slice none 0 0∧ys=[]:=by
   split at he
   · rename_i hq;cases hq
   · rename_i hq;cases hq;cases he;exact⟨rfl,rfl⟩
   · cases he
  obtain⟨rfl,rfl⟩:=this;cases hV;exact⟨none,0,0,0,rfl,Nat.le_refl _,fun hh=>absurd rfl hh,fun i x hx=>by simp at hx⟩
 | _=>simp [zem]at he
theorem zaa9 (l:List Int):∀(s:ByteArray),l.foldl (fun r n=>r.push (UInt8.ofNat n.toNat)) s=⟨s.data++(l.map fun n=>UInt8.ofNat n.toNat).toArray⟩:=by
 induction l with
 | nil=>intro s;simp
 | cons n l ih=>
  intro s;rw [List.foldl_cons,ih];simp [ByteArray.push]
theorem zaeh (L:ELaws C.En) (p:Pre C μ H E h a w o) {src dst e:TypeId} {x:Operand} (ho:o.op= .convert src dst x) (hu:C.P.underlying src=some (.slice e)) (hu2:C.P.underlying dst=some .string) (hu3:C.P.underlying e=some (.int .u8))
 {xs:List (U.den C.En.u8)} (hx:zly h C.En.u8 (opv C E x)=some xs):zb3 C μ H E h a w o (.sc (.string (zhq (C.En.toInts xs)))) h:=by
 have hxm:x∈o.op.operands:=by simp [ho,Op.operands]
 obtain⟨ad,cap,b,o',hv,hcap,had,hcs⟩:=zqw p.mem (fun k hk=>p.foot k (zcr (by simp [zar,ho,hu,hu2]) hxm hk)) (p.ops x hxm) hx
 have hrun:=run_convert_bytes_string (P:=C.P) w src dst e ad xs.length cap hu hu3 hu2
 refine za0 p (cv:= .string (zhq (C.En.toInts xs))) ?_ (.sc _)
 have hres:(Conv.bytesToString (.slice ad xs.length cap)).run C.P w= .ok (.string (zhq (C.En.toInts xs))) w:=by
  cases ad with
  | none=>
   have:xs=[]:=by
    cases xs with
    | nil=>rfl
    | cons y r=>have:=had (by simp);cases this
   subst this;have h0:C.En.toInts []=[]:=List.eq_nil_of_length_eq_zero (by rw [L.toIntsLen];rfl);rw [h0];rfl
  | some A=>
   have hl:(loadCells A xs.length).run C.P w= .ok ((C.En.toInts xs).map (Value.int .u8)).toArray w:=by
    have:=run_loadCells_list (P:=C.P) w A ((C.En.toInts xs).map (Value.int .u8)) (fun j v hj=>by
     rw [gem,oma]at hj;obtain⟨n,hn,rfl⟩:=hj;have hjl:j<xs.length:=by rw [←L.toIntsLen];exact(gea hn).1
     have hne:xs≠[]:=by intro h0;subst h0;simp at hjl
     have hA:=had hne;cases hA;obtain⟨n',hn'⟩:=L.u8 (xs[j]);have hq:=L.toInts xs j xs[j] n' (lga hjl) hn';rw [hn]at hq;cases hq;obtain⟨cv,h1,h2⟩:=hcs j xs[j] (lga hjl) 0 (.sc (.int .u8 n)) (by rw [hn'];rfl);have hs1:C.En.sz C.En.u8=1:=by rw [←L.sz C.En.u8 xs[j],hn'];rfl
     have hcv:=h2.int;subst hcv;rw [hs1,Nat.mul_one,Nat.add_zero]at h1;rw [Addr.add_mid];exact h1)
    rw [List.length_map,L.toIntsLen]at this;exact this
   rw [run_bytesToString w A xs.length cap _ hl,zaa9];simp [zhq]
 simp [execOp,ho,hv,hrun,hres]
end
end Go.Amx
