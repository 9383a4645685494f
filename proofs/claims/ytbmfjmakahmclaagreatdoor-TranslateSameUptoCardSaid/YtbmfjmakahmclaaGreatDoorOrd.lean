/- What translate.ordered of this program is: its facts in order, each once. -/
import Derived.Test.YtbmfjmakahmclaaGreatDoorProg
import Derived.RangeFuncNested
import Derived.RangeFuncLeaves
import Derived.Shelf.SlIter.Collect
import Derived.Shelf.SlSortCmp.WholeK
import Derived.Maps.AppendAt
import Derived.Shelf.AbstractIn
import Derived.OwnWalkIn
import Derived.WalkKit
import Derived.Test.YtbmfjmakahmclaaGreatDoorU
import Derived.StillTailTactics
import Derived.Shelf.SlGeneric
import Derived.Ground.SlsfProg
import Derived.Shelf.SlSortCmp.NoneTotal
import Derived.Shelf.SlLaysE0
import Derived.Shelf.SlicesE.Kit
import Derived.Shelf.SlicesQ.Load
import Derived.Shelf.SlicesQ.Reverse
import Derived.Shelf.GgSortFunc.RowK
import Derived.Shelf.RegionOpenPlain
import Derived.Deep.LoopGhost
import Derived.Deep.Draws
import Derived.Lib.Walk
import Derived.Sort.WalkB12
import Derived.Lib.SliceRun
import Derived.Lib.SlicesCompact
import Derived.Laws.StructEq
namespace Go.Proofs
open Go.RowKit Go.Maps Go.Sort Go.Shelf
set_option maxHeartbeats 1000000 in
theorem Tryz.ord_values (F:Fence) (n:Nat) (hF:F.fn 209) (hro:F.round=none) (a:Option Addr) (l c:Nat) (w:World):
    CallsIn F n Tryz.prog 209 #[.slice a l c] w fun e w'=>e= .returned (.func (.func 287) #[] #[.pointer (some ⟨w.heap.size,0,none⟩)])∧w'=w.alloc (.cells #[.slice a l c] 45):=by
  refine callsIn_of_wp Tryz.func209 rfl hF ?_ hro
  simp only [Tryz.ntmps209,List.size_toArray,List.length_cons,List.length_nil,Nat.reduceAdd,Nat.reduceSub,Array.replicate_succ,Array.replicate_zero,List.push_toArray,List.append_toArray,List.nil_append,List.cons_append]
  gi_wp2
  go_ret
  exact⟨rfl,rfl⟩
end Go.Proofs
namespace Go.Proofs
open Go.RowKit Go.Maps Go.Sort Go.Shelf
open YtbmfjmakahmclaaGreatDoor.M (zD DataType)
def Tryz.fcells (x:zD):List Value:=[.int .i64 x.Register,.int .i64 x.zF.Kind,.int .i64 x.zF.Length,.int .i64 x.zF.Scale,.int .i64 x.Offset]
def Tryz.fval (x:zD):Value:= .agg #[.int .i64 x.Register,.int .i64 x.zF.Kind,.int .i64 x.zF.Length,.int .i64 x.zF.Scale,.int .i64 x.Offset]
def Tryz.FactsAt (n₀:Nat) (W:World) (a:Option Addr) (xs:List zD):Prop:=
  ∀(i:Nat) x,xs[i]?=some x→∃b o,a=some ⟨b,o,none⟩∧b<n₀∧W.cell? ⟨b,o+i*5,none⟩=some (.int .i64 x.Register)∧W.cell? ⟨b,o+i*5+1,none⟩=some (.int .i64 x.zF.Kind)∧
    W.cell? ⟨b,o+i*5+2,none⟩=some (.int .i64 x.zF.Length)∧W.cell? ⟨b,o+i*5+3,none⟩=some (.int .i64 x.zF.Scale)∧W.cell? ⟨b,o+i*5+4,none⟩=some (.int .i64 x.Offset)
theorem Tryz.FactsAt.below {n₀:Nat} {A B:World} (h:Below n₀ A B) {a:Option Addr} {xs:List zD} (hl:Tryz.FactsAt n₀ A a xs):Tryz.FactsAt n₀ B a xs:=fun i x hx=>by
  obtain⟨b,o,rfl,hb,h1,h2,h3,h4,h5⟩:=hl i x hx
  exact⟨b,o,rfl,hb,(h.cell (p:=⟨b,_,none⟩) hb).trans h1,(h.cell (p:=⟨b,_,none⟩) hb).trans h2,(h.cell (p:=⟨b,_,none⟩) hb).trans h3,(h.cell (p:=⟨b,_,none⟩) hb).trans h4,(h.cell (p:=⟨b,_,none⟩) hb).trans h5⟩
def Tryz.ordM (n:Nat):Value→Nat
  | .int _ i=>n-i.toNat
  | _=>0
set_option maxRecDepth 100000 in
set_option maxHeartbeats 1000000 in
theorem Tryz.ord_iter (F:Fence) (n:Nat) (h6:F.fn 287) (hro:F.round=none) (hn:1≤n) (l Bn n₀:Nat) (a:Option Addr) (cap:Nat) (xs:List zD) (J Jx:List zD→World→Prop)
    (hY:∀pre x W,J pre W→pre.length<xs.length→YieldAt F (n-1) Tryz.prog l #[Tryz.fval x] W fun e W'=>
      (e= .returned (.bool true)∧J (pre++[x]) W'∧Below n₀ W W')∨(e= .returned (.bool false)∧Jx (pre++[x]) W'))
    (W:World) (hJ:AbidesFrom W.heap.size J) (hn₀:n₀≤W.heap.size) (hsmall:xs.length<4611686018427387904) (_hcap:xs.length≤cap) (hBn:W.cell? ⟨Bn,0,none⟩=some (.slice a xs.length cap)) (hL:Tryz.FactsAt n₀ W a xs) (h0:J [] W):
    CallsIn F n Tryz.prog 287 #[.func (.yield l) #[] #[],.pointer (some ⟨Bn,0,none⟩)] W fun e W'=>(∃v,e= .returned v)∧
      ((∃ys,ys=xs∧J ys W')∨(∃pre,pre<+:xs∧Jx pre W')):=by
  refine callsIn_of_wp Tryz.func287 rfl h6 ?_ hro
  simp only [Tryz.ntmps287,List.size_toArray,List.length_cons,List.length_nil,Nat.reduceAdd,Nat.reduceSub,Array.replicate_succ,Array.replicate_zero,List.push_toArray,List.append_toArray,List.nil_append,List.cons_append]
  gi_wp2
  gi_loopw [7] (fun p wr=>∃(k:Nat),p= .int .i64 k∧k≤xs.length∧Tryz.FactsAt n₀ wr a xs∧J (xs.take k) wr∧n₀≤wr.heap.size∧W.heap.size≤wr.heap.size)
    (fun p wr=>Tryz.ordM xs.length p)
  case atStart=>
    exact⟨0,rfl,Nat.zero_le _,hL,h0,hn₀,Nat.le_refl _⟩
  case round=>
    obtain⟨k,rfl,hk,hl,hJs,hs1,hs2⟩:=hrel
    by_cases hlt:(k:Int)<(xs.length:Int)
    · have hkl:k<xs.length:=by omega
      have zc:xs[k]?=some xs[k]:=List.getElem?_eq_getElem hkl
      have htk:xs.take k++[xs[k]]=xs.take (k+1):=(List.take_append_getElem hkl)
      generalize xs[k]=x at zc htk
      obtain⟨b,o,rfl,hb,c1,c2,c3,c4,c5⟩:=hl _ x zc
      have hJ2:J (xs.take k) (wr.alloc (.cells #[.int .i64 x.Register,.int .i64 x.zF.Kind,.int .i64 x.zF.Length,.int .i64 x.zF.Scale,.int .i64 x.Offset] 49)):=
        hJ _ wr _ none hJs (World.grownBy_alloc wr _ none) (fun r e=>by cases e)
      obtain⟨fn,tmps,assign,body,hy,hR⟩:=hY _ x _ hJ2 (by rw [List.length_take];omega)
      rw [htk]at hR
      simp only [Tryz.fval]at hy
      have Htk:Aside _:=htk
      clear htk zc
      gi_wp2
      refine hR.mono ?_
      have hb2:Below n₀ wr (wr.alloc (.cells #[.int .i64 x.Register,.int .i64 x.zF.Kind,.int .i64 x.zF.Length,.int .i64 x.zF.Scale,.int .i64 x.Offset] 49)):=(Below.refl _ wr).alloc hs1 _
      rintro e W3 (⟨rfl,hJ3,hk3⟩|⟨rfl,hJx3⟩)
      · gi_wp2
        go_roundw
        case rel=>exact⟨k+1,by simp,hkl,(hl.below hb2).below hk3,hJ3,Nat.le_trans hs1 (Nat.le_trans hb2.size hk3.size),Nat.le_trans hs2 (Nat.le_trans hb2.size hk3.size)⟩
        case measure=>simp [Tryz.ordM];omega
      · gi_wp2
        refine bodyPost_ret (results_none rfl _ _ _) rfl ?_
        exact⟨⟨_,rfl⟩,.inr ⟨_,List.take_prefix _ _,hJx3⟩⟩
    · have hkl:k=xs.length:=by omega
      gi_wp2
      go_end0
      refine⟨⟨_,rfl⟩,.inl ?_⟩
      rw [hkl,List.take_length]at hJs
      exact hJs
theorem Tryz.ord_stops (F:Fence) (n:Nat) (h6:F.fn 287) (hro:F.round=none) (hn:1≤n) (Bn n₀:Nat) (a:Option Addr) (cap:Nat) (xs:List zD) (w:World) (hBn:Bn<w.heap.size) (hn₀:n₀≤w.heap.size)
    (hsmall:xs.length<4611686018427387904) (hcap:xs.length≤cap) (hc:w.cell? ⟨Bn,0,none⟩=some (.slice a xs.length cap)) (hL:Tryz.FactsAt n₀ w a xs):
    SeqStopsK F n Tryz.prog 287 #[.pointer (some ⟨Bn,0,none⟩)] (fun x:zD=> #[Tryz.fval x]) (Below n₀) (fun ys=>ys=xs) (fun pre=>pre<+:xs) xs.length w:=fun l J Jx W hW hJ _ hY h0=>
  Tryz.ord_iter F n h6 hro hn l Bn n₀ a cap xs J Jx hY W hJ (Nat.le_trans hn₀ hW.size) hsmall hcap ((hW.cell (p:=⟨Bn,0,none⟩) hBn).trans hc) (hL.below (hW.mono hn₀)) h0
end Go.Proofs
namespace Go.Proofs
open Go.RowKit Go.Maps Go.Sort Go.Shelf
open YtbmfjmakahmclaaGreatDoor.M (zD DataType)
theorem Tryz.cells_new5 (w:World) (x:zD) (t:TypeId):∀(j:Nat) u,(Tryz.fcells x)[j]?=some u→(w.alloc (.cells #[.int .i64 x.Register,.int .i64 x.zF.Kind,.int .i64 x.zF.Length,.int .i64 x.zF.Scale,.int .i64 x.Offset] t)).cell? ((⟨w.heap.size,0,none⟩:Addr).add j)=some u:=by
  intro j u hj
  match j,hj with
  | 0,hj=>simp [Tryz.fcells]at hj;subst hj;simp [Addr.add]
  | 1,hj=>simp [Tryz.fcells]at hj;subst hj;simp [Addr.add]
  | 2,hj=>simp [Tryz.fcells]at hj;subst hj;simp [Addr.add]
  | 3,hj=>simp [Tryz.fcells]at hj;subst hj;simp [Addr.add]
  | 4,hj=>simp [Tryz.fcells]at hj;subst hj;simp [Addr.add]
  | j+5,hj=>simp [Tryz.fcells]at hj
def Tryz.flat (l:List zD):List Value:=l.flatMap Tryz.fcells
theorem Tryz.flat_len (l:List zD):(Tryz.flat l).length=l.length*5:=by
  induction l with
  | nil=>rfl
  | cons x l ih=>
    unfold Tryz.flat at ih⊢
    rw [List.flatMap_cons,List.length_append,ih,List.length_cons]
    show 5+_=_
    omega
theorem Tryz.flat_snoc (l:List zD) (x:zD):Tryz.flat (l++[x])=Tryz.flat l++Tryz.fcells x:=by simp [Tryz.flat]
def Tryz.ApI (w0:World) (pre:List zD) (W:World):Prop:=
  (∃v,W.heap[w0.heap.size]?=some (.cells #[v] 45 (0,0))∧W.ownsRow w0.heap.size 49 5 v pre.length (Tryz.flat pre))∧Below w0.heap.size w0 W
theorem Tryz.own_not_box {W:World} {base:Nat} {v u:Value} {k B:Nat} {xs:List Value} (h:W.ownsRow base 49 5 v k xs) (hB:W.heap[B]?=some (.cells #[u] 45 (0,0))):v.ownBlock≠some B:=by
  rcases h.2 with⟨rfl,_⟩|⟨g,cap,cur,rfl,_,hgb,_⟩
  · simp [Value.ownBlock]
  · intro e
    have:g=B:=by simpa [Value.ownBlock]using e
    subst this
    rw [hgb]at hB
    cases hB
theorem Tryz.own_cells {W:World} {base:Nat} {v:Value} {k:Nat} {xs:List Value} (h:W.ownsRow base 49 5 v k xs):∀(j:Nat) (o:Obj),v.ownBlock=some j→W.heap[j]?=some o→o.isCells=true:=by
  intro j o hj ho
  rcases h.2 with⟨rfl,_⟩|⟨g,cap,cur,rfl,_,hgb,_⟩
  · simp [Value.ownBlock]at hj
  · have:g=j:=by simpa [Value.ownBlock]using hj
    subst this;rw [hgb]at ho;cases ho;rfl
theorem Tryz.own_ne {W:World} {base:Nat} {v:Value} {k:Nat} {xs:List Value} (h:W.ownsRow base 49 5 v k xs) {row:Option Nat} (hr:∀r,row=some r→∃o:Obj,W.heap[r]?=some o∧o.isCells=false):v.ownBlock=none∨v.ownBlock≠row:=by
  cases hv:v.ownBlock with
  | none=>exact .inl rfl
  | some j=>
    refine .inr fun e=> ?_
    obtain⟨o,h1,h2⟩:=hr j e.symm
    rw [Tryz.own_cells h j o hv h1]at h2
    cases h2
theorem Tryz.apI_own (w0:World) (B:Nat) (hB:w0.heap.size≤B):OwnFrom B (Tryz.ApI w0):=fun s X Y row hs hg hr=>by
  obtain⟨⟨v,hv,hrow⟩,hb⟩:=hs
  have hr':∀r,row=some r→∃o:Obj,X.heap[r]?=some o∧o.isCells=false:=fun r e=>(hr r e).2
  exact⟨⟨v,(grownBy_keeps_cells hg hr' hv rfl).trans hv,hrow.kept hg (Tryz.own_ne hrow hr')⟩,hb.grown hg hb.size (fun k e=>Nat.le_trans hB (hr k e).1)⟩
def Tryz.ApX (w0:World) (sv:Value) (x:zD) (a':Act) (W:World):Prop:=
  ∃Bx,W.heap[Bx]?=some (.cells #[.int .i64 x.Register,.int .i64 x.zF.Kind,.int .i64 x.zF.Length,.int .i64 x.zF.Scale,.int .i64 x.Offset] 49 (0,0))∧w0.heap.size<Bx∧
    a'={tmps:= #[.slice none 0 0,sv,.pointer (some ⟨w0.heap.size,0,none⟩),undef,.slice none 0 0,.pointer (some ⟨Bx,0,none⟩),sv,Tryz.fval x,undef,undef,undef,undef,undef],defers:=[]}
theorem Tryz.apX_own (w0:World) (sv:Value) (x:zD) (a':Act) (B:Nat):OwnFrom B (fun(_:Unit) W=>Tryz.ApX w0 sv x a' W):=fun _ X Y row hs hg hr=>by
  obtain⟨Bx,h1,h2,h3⟩:=hs
  exact⟨Bx,(grownBy_keeps_cells hg (fun r e=>(hr r e).2) h1 rfl).trans h1,h2,h3⟩
set_option maxRecDepth 100000 in
set_option maxHeartbeats 2000000 in
theorem Tryz.ord_append (F:Fence) (n:Nat) (h11:F.fn 318) (hF:F.fn 287) (hro:F.round=none) (hn:2≤n) (Bn:Nat) (a:Option Addr) (cap:Nat) (xs:List zD) (w:World) (hBn:Bn<w.heap.size)
    (hsmall:xs.length*40≤70368744177664) (hcap:xs.length≤cap) (hc:w.cell? ⟨Bn,0,none⟩=some (.slice a xs.length cap)) (hL:Tryz.FactsAt w.heap.size w a xs):
    CallsIn F n Tryz.prog 318 #[.slice none 0 0,.func (.func 287) #[] #[.pointer (some ⟨Bn,0,none⟩)]] w fun e W'=>∃v,e= .returned v∧W'.ownsRow w.heap.size 49 5 v xs.length (Tryz.flat xs)∧Below w.heap.size w W':=by
  have h1:1≤n:=by omega
  obtain⟨i0,hi,hz0,hz1,hz2⟩:=info_parts (P:=Tryz.prog) (e:=49) (z:= .agg #[.int .i64 0,.int .i64 0,.int .i64 0,.int .i64 0,.int .i64 0]) (size:=5) (bytes:=40) (by kernel_rfl)
  refine callsIn_of_wp_marks Tryz.func318 rfl h11 ?_ hro
  simp only [Tryz.ntmps318,List.size_toArray,List.length_cons,List.length_nil,Nat.reduceAdd,Nat.reduceSub,Array.replicate_succ,Array.replicate_zero,List.push_toArray,List.append_toArray,List.nil_append,List.cons_append]
  gi_wp2
  obtain⟨W0,hW0⟩:∃W0,w.alloc (.cells #[.slice none 0 0] 45)=W0:=⟨_,rfl⟩
  have hs0:W0.heap.size=w.heap.size+1:=by rw [←hW0];simp
  have hv0:W0.heap[w.heap.size]?=some (.cells #[.slice none 0 0] 45 (0,0)):=by rw [←hW0];exact World.alloc_heap_new w _
  have hb0:Below w.heap.size w W0:=by rw [←hW0];exact(Below.refl _ w).alloc (Nat.le_refl _) _
  rw [hW0]
  clear hW0
  refine wpIn_rangeFunc_ownH hro h1 (gf:=287) (lb:= #[.pointer (some ⟨Bn,0,none⟩)]) rfl hF (enters_of Tryz.func287 (by kernel_rfl) rfl)
    (Tryz.ord_stops F (n-1) hF hro (by omega) Bn w.heap.size a cap xs W0 (by omega) (by omega) (by omega) hcap ((hb0.cell (p:=⟨Bn,0,none⟩) hBn).trans hc) (hL.below hb0)) belowK_t (belowK_b (by omega)) (Below.refl _ _) (fun _=>rfl)
    (Tryz.ApI w) (fun _ _ _=>False) (Tryz.apI_own w _ (by omega)) (fun _ _ _ _ _ hs _ _=>hs)
    ⟨⟨_,hv0,by constructor;rfl;exact .inl ⟨rfl,rfl⟩⟩,hb0⟩
    (Tryz.ApX w (.func (.func 287) #[] #[.pointer (some ⟨Bn,0,none⟩)])) (fun x a'=>Tryz.apX_own _ _ _ _ _) ?assign ?body ?done ?stop
  case assign=>
    rintro l pre x W K ⟨⟨v,hv,hrow⟩,hb⟩ hK
    simp only [Tryz.fval]at hK⊢
    gi_wp2_with (rw [Oper.semAt_eq _ _ _ (fun c h=>by cases h)];go_simp;try go_bits)
    refine hK _ _ ((KeepsOthers.alloc _ _).from _) ((Below.refl _ W).alloc hb.size _) ⟨⟨v,(Below.heap_alloc W _ _ (Array.getElem?_eq_some_iff.1 hv).1).trans hv,hrow.alloc _⟩,hb.alloc hb.size _⟩ ⟨W.heap.size,World.alloc_heap_new W _,(Array.getElem?_eq_some_iff.1 hv).1,rfl⟩
  case body=>
    rintro l pre x a' W hl ⟨r,hr⟩ ⟨⟨v,hv,hrow⟩,hb⟩ ⟨Bx,hX,hBx,rfl⟩ hlt
    have hcv:=(cell_of_box_a hv).1
    have hfv:=(cell_of_box_a hv).2
    have cX:∀(j:Nat) u,(Tryz.fcells x)[j]?=some u→W.cell? ⟨Bx,j,none⟩=some u:=fun j u hj=>by
      simp only [World.cell?,hX]
      match j,hj with
      | 0,hj=>simpa [Tryz.fcells]using hj
      | 1,hj=>simpa [Tryz.fcells]using hj
      | 2,hj=>simpa [Tryz.fcells]using hj
      | 3,hj=>simpa [Tryz.fcells]using hj
      | 4,hj=>simpa [Tryz.fcells]using hj
      | j+5,hj=>simp [Tryz.fcells]at hj
    have c0:=cX 0 _ rfl
    have c1:=cX 1 _ rfl
    have c2:=cX 2 _ rfl
    have c3:=cX 3 _ rfl
    have c4:=cX 4 _ rfl
    have hBs:w.heap.size<W.heap.size:=(Array.getElem?_eq_some_iff.1 hv).1
    have u45:=Tryz.underlying45
    have hlen:xs.length≤1759218604441:=by omega
    clear cX
    gi_wp2_with (first
      | (gi_at_builtin;refine wpListIn_append_own _ rfl _ _ 45 rfl w.heap.size 49 i0 (.agg #[.int .i64 0,.int .i64 0,.int .i64 0,.int .i64 0,.int .i64 0]) 5 40 u45 hi hz0 hz1 hz2 rfl (by decide) _ _ _ rfl (hrow.alloc _) ⟨W.heap.size,0,none⟩ 1 1 (Tryz.fcells x) rfl rfl (Tryz.cells_new5 _ _ _) (by simp [Value.oneCell',Tryz.fcells]) (by simp only [maxLen];omega) (by omega) (by simp;omega) ?_;intro v' w3 hown' hg3 hnil3
         have hv3:w3.heap[w.heap.size]?=some (.cells #[v] 45 (0,0)):=(hg3.block _ (by simp;omega) (fun e=>Tryz.own_not_box hrow hv e.symm)).trans ((Below.heap_alloc _ _ _ hBs).trans hv)
         obtain⟨hc3,hf3⟩:=cell_of_box_a hv3
         obtain⟨g',cap',cur',rfl,hbase',hgb',hr1,hr2,hr3,hr4⟩:∃g' cap' cur',v'= .slice (some ⟨g',0,none⟩) (pre.length+1) cap'∧w.heap.size≤g'∧w3.heap[g']?=some (.cells cur' 49 (0,0))∧pre.length+1≤cap'∧cap'≤maxLen∧cur'.size=cap'*5∧cur'.toList.take ((pre.length+1)*5)=Tryz.flat pre++Tryz.fcells x:=by
           rcases hown'.2 with⟨_,h0⟩|h'
           · exact absurd h0 (by omega)
           · exact h'
         go_frame)
      | (rw [Oper.semAt_eq _ _ _ (fun c h=>by cases h)];go_simp;try go_bits))
    have hb1:Below w.heap.size W (W.alloc (.cells #[.int .i64 x.Register,.int .i64 x.zF.Kind,.int .i64 x.zF.Length,.int .i64 x.zF.Scale,.int .i64 x.Offset] 49)):=(Below.refl _ W).alloc hb.size _
    have hb3:Below w.heap.size W w3:=hb1.grown hg3 (Nat.le_trans hb.size hb1.size) (fun k e=>by have:=(hrow.lt k e).1;exact this)
    have hb4:=hb3.setCell (p:=⟨w.heap.size,0,none⟩) (Nat.le_refl _) (.slice (some ⟨g',0,none⟩) (pre.length+1) cap')
    refine⟨(((KeepsOthers.alloc W _).trans (KeepsOthers.of_grownBy hg3 (Tryz.own_cells (hrow.alloc _)))).trans (KeepsOthers.setCell _ _ _)).from _,hb4,⟨⟨_,heap_setCell_box_a _ hv3,?_⟩,hb.trans hb4⟩⟩
    rw [List.length_append,Tryz.flat_snoc]
    exact hown'.kept (grownBy_setCell0_a _ _ _) (.inr (Tryz.own_not_box hown' hv3))
  case done=>
    rintro D zs W hD rfl ⟨⟨v,hv,hrow⟩,hb⟩ hK
    have cS:=(cell_of_box_a hv).1
    gi_wp2
    refine⟨by simp,.inl ⟨_,_,rfl,run_takeDeferred hK,?_⟩⟩
    refine⟨_,results_tmp rfl _ _ _,v,rfl,hrow.kept (grownBy_putObj_a _ _ _) (Tryz.own_ne hrow fun r e=>by cases e;exact⟨_,hK,rfl⟩),hb.trans (belowK_b (w:=w) (Nat.le_refl _) W D _ _ (by omega) hK rfl rfl)⟩
  case stop=>
    rintro D c pre W _ _ h _
    exact h.elim
end Go.Proofs
namespace Go.Proofs
open Go.RowKit Go.Maps Go.Sort Go.Shelf Go.Lib
open YtbmfjmakahmclaaGreatDoor.M (zD DataType)
theorem Tryz.ord_nan (x:Int) (w:World):Calls Tryz.prog 321 #[.int .i64 x] w fun e w'=>e= .returned (.bool false)∧w'=w:=by
  refine(callsIn_wide (n:=6)).1 ?_
  refine callsIn_of_wp Tryz.func321 rfl trivial ?_ rfl
  simp only [Tryz.ntmps321,List.size_toArray,List.length_cons,List.length_nil,Nat.reduceAdd,Nat.reduceSub,Array.replicate_succ,Array.replicate_zero,List.push_toArray,List.append_toArray,List.nil_append,List.cons_append]
  gi_wp2
  go_ret
  simp
def Tryz.cmpI (x y:Int):Int:=if x<y then-1 else if y<x then 1 else 0
theorem Tryz.ord_cmp (x y:Int) (w:World):Calls Tryz.prog 289 #[.int .i64 x,.int .i64 y] w fun e w'=>e= .returned (.int .i64 (Tryz.cmpI x y))∧w'=w:=by
  refine(callsIn_wide (n:=6)).1 ?_
  have hN:∀x W,CallsIn Fence.wide 5 Tryz.prog 321 #[.int .i64 x] W fun e w'=>e= .returned (.bool false)∧w'=W:=fun x W=>callsIn_wide.2 (Tryz.ord_nan x W)
  have hF:Fence.wide.fn 321:=trivial
  refine callsIn_of_wp Tryz.func289 rfl trivial ?_ rfl
  simp only [Tryz.ntmps289,List.size_toArray,List.length_cons,List.length_nil,Nat.reduceAdd,Nat.reduceSub,Array.replicate_succ,Array.replicate_zero,List.push_toArray,List.append_toArray,List.nil_append,List.cons_append]
  gi_wp2_with (gi_at_call 321;refine(hN _ _).mono ?_;rintro e w' ⟨rfl,rfl⟩)
  all_goals go_ret
  all_goals (unfold Tryz.cmpI;simp [*])
  all_goals (rw [if_neg (by omega),if_neg (by omega)])
def Tryz.orI:List Int→Int
  | []=>0
  | x::l=>if x=0 then Tryz.orI l else x
set_option maxRecDepth 100000 in
set_option maxHeartbeats 1000000 in
theorem Tryz.ord_or (zs:List Int) (b c:Nat) (w:World) (hsmall:zs.length<4611686018427387904) (_hcap:zs.length≤c) (hc:∀(i:Nat) z,zs[i]?=some z→w.cell? ⟨b,i,none⟩=some (.int .i64 z)):
    Calls Tryz.prog 288 #[.slice (some ⟨b,0,none⟩) zs.length c] w fun e w'=>e= .returned (.int .i64 (Tryz.orI zs))∧w'=w:=by
  refine(callsIn_wide (n:=6)).1 ?_
  refine callsIn_of_wp Tryz.func288 rfl trivial ?_ rfl
  simp only [Tryz.ntmps288,List.size_toArray,List.length_cons,List.length_nil,Nat.reduceAdd,Nat.reduceSub,Array.replicate_succ,Array.replicate_zero,List.push_toArray,List.append_toArray,List.nil_append,List.cons_append]
  gi_wp2
  have HC:Aside _:=hc
  clear hc
  gi_loopw [8] (fun p wr=>∃(k:Nat),p= .int .i64 k∧k≤zs.length∧wr=w∧Aside (Tryz.orI zs=Tryz.orI (zs.drop k)))
    (fun p wr=>Tryz.ordM zs.length p)
  case atStart=>
    exact⟨0,rfl,Nat.zero_le _,rfl,rfl⟩
  case round=>
    obtain⟨k,rfl,hk,rfl,ho⟩:=hrel
    by_cases hlt:(k:Int)<(zs.length:Int)
    · have hkl:k<zs.length:=by omega
      have zc:zs[k]?=some zs[k]:=List.getElem?_eq_getElem hkl
      have htk:zs.drop k=zs[k]::zs.drop (k+1):=List.drop_eq_getElem_cons hkl
      have hcell:=HC.out k _ zc
      have ho':=ho.out
      rw [htk,Tryz.orI]at ho'
      generalize zs[k]=z at hcell ho'
      clear zc htk ho
      by_cases hz:z=0
      · rw [if_pos hz]at ho'
        have HO:Aside _:=ho'
        clear ho'
        subst hz
        gi_wp2
        go_roundw
        case rel=>exact⟨k+1,by simp,hkl,trivial,HO.out⟩
        case measure=>simp [Tryz.ordM];omega
      · rw [if_neg hz]at ho'
        have HO:Aside _:=ho'
        clear ho'
        have hzb:(z==0)=false:=beq_eq_false_iff_ne.2 hz
        have hzn:(z !=0)=true:=by simp [hz]
        gi_wp2
        refine bodyPost_ret (results_tmp rfl _ _ _) rfl ?_
        exact⟨by rw [HO.out];rfl,rfl⟩
    · have hkl:k=zs.length:=by omega
      gi_wp2
      go_ret
      refine⟨?_,rfl⟩
      have:=ho.out
      rw [hkl,List.drop_length]at this
      rw [this]
      rfl
end Go.Proofs
namespace Go.Proofs
open Go.RowKit Go.Maps Go.Sort Go.Shelf Go.Lib
open YtbmfjmakahmclaaGreatDoor.M (zD DataType)
theorem Tryz.grow3 (w:World) (o1 o2 o3:Obj):World.alloc (World.drew (World.alloc (World.alloc w o1) o2)) o3=grow (w.drewN 1) #[o1,o2,o3]:=by
  unfold World.alloc World.drew grow
  have:((w.heap.push o1).push o2).push o3=w.heap++ #[o1,o2,o3]:=by apply Array.ext';simp
  simp only [this]
  rfl
def Tryz.cmpF (x y:zD):Int:=Tryz.orI [x.Register-y.Register,Tryz.cmpI x.Offset y.Offset,x.zF.Kind-y.zF.Kind,x.zF.Length-y.zF.Length,x.zF.Scale-y.zF.Scale]
set_option maxRecDepth 100000 in
set_option maxHeartbeats 2000000 in
theorem Tryz.ord_compare (x y:zD) (hw1:IntKind.i64.wrap (x.Register-y.Register)=x.Register-y.Register) (hw2:IntKind.i64.wrap (x.zF.Kind-y.zF.Kind)=x.zF.Kind-y.zF.Kind) (hw3:IntKind.i64.wrap (x.zF.Length-y.zF.Length)=x.zF.Length-y.zF.Length) (hw4:IntKind.i64.wrap (x.zF.Scale-y.zF.Scale)=x.zF.Scale-y.zF.Scale) (w:World):
    Calls Tryz.prog 210 #[Tryz.fval x,Tryz.fval y] w fun e w'=>e= .returned (.int .i64 (Tryz.cmpF x y))∧∃q os',w'=grow (w.drewN q) os':=by
  have mixed:Tryz.prog.follows .mixedOrders=true:=by kernel_rfl
  have e187:∀args w,(callFunc 289 args).run Tryz.prog w= .ok (.enter 289 args) w:=enters_of Tryz.func289 (by kernel_rfl) rfl
  have e186:∀args w,(callFunc 288 args).run Tryz.prog w= .ok (.enter 288 args) w:=enters_of Tryz.func288 (by kernel_rfl) rfl
  simp only [Tryz.fval]
  go_enter Tryz.func210,Tryz.ntmps210
  go_wp2
  obtain⟨W2,hW2⟩:∃W2,((w.alloc (.cells #[.int .i64 x.Register,.int .i64 x.zF.Kind,.int .i64 x.zF.Length,.int .i64 x.zF.Scale,.int .i64 x.Offset] 49)).alloc (.cells #[.int .i64 y.Register,.int .i64 y.zF.Kind,.int .i64 y.zF.Length,.int .i64 y.zF.Scale,.int .i64 y.Offset] 49))=W2:=⟨_,rfl⟩
  have a0:W2.cell? ⟨w.heap.size,0,none⟩=some (.int .i64 x.Register):=by rw [←hW2];simp
  have a1:W2.cell? ⟨w.heap.size,1,none⟩=some (.int .i64 x.zF.Kind):=by rw [←hW2];simp
  have a2:W2.cell? ⟨w.heap.size,2,none⟩=some (.int .i64 x.zF.Length):=by rw [←hW2];simp
  have a3:W2.cell? ⟨w.heap.size,3,none⟩=some (.int .i64 x.zF.Scale):=by rw [←hW2];simp
  have a4:W2.cell? ⟨w.heap.size,4,none⟩=some (.int .i64 x.Offset):=by rw [←hW2];simp
  have b0:W2.cell? ⟨w.heap.size+1,0,none⟩=some (.int .i64 y.Register):=by rw [←hW2];simp
  have b1:W2.cell? ⟨w.heap.size+1,1,none⟩=some (.int .i64 y.zF.Kind):=by rw [←hW2];simp
  have b2:W2.cell? ⟨w.heap.size+1,2,none⟩=some (.int .i64 y.zF.Length):=by rw [←hW2];simp
  have b3:W2.cell? ⟨w.heap.size+1,3,none⟩=some (.int .i64 y.zF.Scale):=by rw [←hW2];simp
  have b4:W2.cell? ⟨w.heap.size+1,4,none⟩=some (.int .i64 y.Offset):=by rw [←hW2];simp
  rw [hW2]
  have HW:Aside _:=hW2
  clear hW2
  have d:∀(a:Addr),W2.drew.cell? a=W2.cell? a:=fun _=>rfl
  have hlen:W2.heap.size=w.heap.size+2:=by rw [←HW.out];simp
  refine wp_region_still_tail 31 mixed (by kernel_rfl) ?_
  simp only [List.take_succ_cons,List.take_zero,List.drop_succ_cons,List.drop_zero]
  repeat still_step
  still_call (Tryz.ord_cmp _ _ _)
  repeat still_step
  refine wpStill_nil ?_
  obtain⟨W3,hW3⟩:∃W3,W2.drew=W3:=⟨_,rfl⟩
  have hd:({W2 with drawn:=W2.drawn+1}:World)=W3:=hW3
  rw [hd]
  generalize hz0:x.Register-y.Register=z0
  generalize hz1:Tryz.cmpI x.Offset y.Offset=z1
  generalize hz2:x.zF.Kind-y.zF.Kind=z2
  generalize hz3:x.zF.Length-y.zF.Length=z3
  generalize hz4:x.zF.Scale-y.zF.Scale=z4
  have hor:Calls Tryz.prog 288 #[.slice (some ⟨W3.heap.size,0,none⟩) 5 5] (W3.alloc (.cells #[.int .i64 z0,.int .i64 z1,.int .i64 z2,.int .i64 z3,.int .i64 z4] 3)) fun e w'=>e= .returned (.int .i64 (Tryz.orI [z0,z1,z2,z3,z4]))∧w'=W3.alloc (.cells #[.int .i64 z0,.int .i64 z1,.int .i64 z2,.int .i64 z3,.int .i64 z4] 3):=
    Tryz.ord_or [z0,z1,z2,z3,z4] W3.heap.size 5 _ (by simp) (by simp) fun i z hi=>by
      match i,hi with
      | 0,hi=>simp at hi;subst hi;simp
      | 1,hi=>simp at hi;subst hi;simp
      | 2,hi=>simp at hi;subst hi;simp
      | 3,hi=>simp at hi;subst hi;simp
      | 4,hi=>simp at hi;subst hi;simp
      | i+5,hi=>simp at hi
  have Z:Aside (Tryz.orI [z0,z1,z2,z3,z4]=Tryz.cmpF x y):=by subst hz0 hz1 hz2 hz3 hz4;rfl
  clear hz0 hz1 hz2 hz3 hz4 hw1 hw2 hw3 hw4 a0 a1 a2 a3 a4 b0 b1 b2 b3 b4 d
  have HD:Aside _:=hW3
  clear hW3 hd
  go_wp2_with (go_at_fn 288;refine hor.mono ?_;rintro e w' ⟨rfl,rfl⟩)
  refine bodyPost_ret (results_tmp rfl _ _ _) rfl ?_
  refine⟨by rw [←Z.out];rfl,1, #[.cells #[.int .i64 x.Register,.int .i64 x.zF.Kind,.int .i64 x.zF.Length,.int .i64 x.zF.Scale,.int .i64 x.Offset] 49 (0,0),.cells #[.int .i64 y.Register,.int .i64 y.zF.Kind,.int .i64 y.zF.Length,.int .i64 y.zF.Scale,.int .i64 y.Offset] 49 (0,0),.cells #[.int .i64 z0,.int .i64 z1,.int .i64 z2,.int .i64 z3,.int .i64 z4] 3 (0,0)],?_⟩
  rw [←HD.out,←HW.out]
  exact Tryz.grow3 _ _ _ _
end Go.Proofs
namespace Go.Proofs
open Go.Shelf
def Tryz.laysSF_ren:Go.Shelf.Ren:=⟨fun|6=>286|15=>320|14=>319|28=>344|29=>345|20=>336|21=>337|22=>338|23=>339|24=>340|25=>341|26=>342|27=>343|46=>352|47=>353|48=>354|49=>355|50=>356|57=>362|n=>n,fun|22=>45|24=>49|25=>270|3=>3|39=>310|0=>0|53=>360|55=>348|4=>4|46=>386|45=>385|50=>156|5=>5|9=>9|66=>398|70=>328|76=>407|77=>93|n=>n,fun n=>n⟩
theorem Tryz.laysSF:Go.Proofs.SlLaysF0.n6 Tryz.prog Tryz.laysSF_ren:={
  mixed:=by kernel_rfl
  f6:=⟨Tryz.f286.name,by decide,Tryz.func286.trans (congrArg some (by kernel_rfl))⟩
  f14:=⟨Tryz.f319.name,by decide,Tryz.func319.trans (congrArg some (by kernel_rfl))⟩
  f15:=Tryz.func320.trans (congrArg some (by kernel_rfl))
  f20:=⟨Tryz.f336.name,by decide,Tryz.func336.trans (congrArg some (by kernel_rfl))⟩
  f21:=⟨Tryz.f337.name,by decide,Tryz.func337.trans (congrArg some (by kernel_rfl))⟩
  f22:=⟨Tryz.f338.name,by decide,Tryz.func338.trans (congrArg some (by kernel_rfl))⟩
  f23:=⟨Tryz.f339.name,by decide,Tryz.func339.trans (congrArg some (by kernel_rfl))⟩
  f24:=⟨Tryz.f340.name,by decide,Tryz.func340.trans (congrArg some (by kernel_rfl))⟩
  f25:=⟨Tryz.f341.name,by decide,Tryz.func341.trans (congrArg some (by kernel_rfl))⟩
  f26:=⟨Tryz.f342.name,by decide,Tryz.func342.trans (congrArg some (by kernel_rfl))⟩
  f27:=⟨Tryz.f343.name,by decide,Tryz.func343.trans (congrArg some (by kernel_rfl))⟩
  f28:=Tryz.func344.trans (congrArg some (by kernel_rfl))
  f29:=Tryz.func345.trans (congrArg some (by kernel_rfl))
  f46:=⟨Tryz.f352.name,by decide,Tryz.func352.trans (congrArg some (by kernel_rfl))⟩
  f47:=Tryz.func353.trans (congrArg some (by kernel_rfl))
  f48:=Tryz.func354.trans (congrArg some (by kernel_rfl))
  f49:=⟨Tryz.f355.name,by decide,Tryz.func355.trans (congrArg some (by kernel_rfl))⟩
  f50:=⟨Tryz.f356.name,by decide,Tryz.func356.trans (congrArg some (by kernel_rfl))⟩
  f57:=⟨Tryz.f362.name,by decide,Tryz.func362.trans (congrArg some (by kernel_rfl))⟩
  t0:=Tryz.underlying0
  a0:=Tryz.isAgg0
  z0:=Tryz.sizeOf0
  v0:=Tryz.zeroValue0
  t3:=Tryz.underlying3
  a3:=Tryz.isAgg3
  z3:=Tryz.sizeOf3
  v3:=Tryz.zeroValue3
  t4:=Tryz.underlying4
  a4:=Tryz.isAgg4
  z4:=Tryz.sizeOf4
  v4:=Tryz.zeroValue4
  t5:=Tryz.underlying5
  a5:=Tryz.isAgg5
  z5:=Tryz.sizeOf5
  v5:=Tryz.zeroValue5
  t9:=Tryz.underlying9
  a9:=Tryz.isAgg9
  z9:=Tryz.sizeOf9
  v9:=Tryz.zeroValue9
  t22:=Tryz.underlying45
  a22:=Tryz.isAgg45
  z22:=Tryz.sizeOf45
  v22:=Tryz.zeroValue45
  t25:=Tryz.underlying270
  a25:=Tryz.isAgg270
  z25:=Tryz.sizeOf270
  v25:=Tryz.zeroValue270
  t39:=Tryz.underlying310
  a39:=Tryz.isAgg310
  z39:=Tryz.sizeOf310
  v39:=Tryz.zeroValue310
  t45:=Tryz.underlying385
  a45:=Tryz.isAgg385
  z45:=Tryz.sizeOf385
  v45:=Tryz.zeroValue385
  t46:=Tryz.underlying386
  a46:=Tryz.isAgg386
  z46:=Tryz.sizeOf386
  v46:=Tryz.zeroValue386
  t50:=Tryz.underlying156
  a50:=Tryz.isAgg156
  z50:=Tryz.sizeOf156
  v50:=Tryz.zeroValue156
  t53:=Tryz.underlying360
  a53:=Tryz.isAgg360
  z53:=Tryz.sizeOf360
  v53:=Tryz.zeroValue360
  t55:=Tryz.underlying348
  a55:=Tryz.isAgg348
  z55:=Tryz.sizeOf348
  v55:=Tryz.zeroValue348
  t66:=Tryz.underlying398
  a66:=Tryz.isAgg398
  z66:=Tryz.sizeOf398
  v66:=Tryz.zeroValue398
  t70:=Tryz.underlying328
  a70:=Tryz.isAgg328
  z70:=Tryz.sizeOf328
  v70:=Tryz.zeroValue328
  t76:=Tryz.underlying407
  a76:=Tryz.isAgg407
  z76:=Tryz.sizeOf407
  v76:=Tryz.zeroValue407
  t77:=Tryz.underlying93
  a77:=Tryz.isAgg93
  z77:=Tryz.sizeOf93
  v77:=Tryz.zeroValue93}
end Go.Proofs
namespace Go.Proofs
open Go.RowKit Go.Maps Go.Sort Go.Shelf Go.Lib
open YtbmfjmakahmclaaGreatDoor.M (zD DataType)
set_option maxRecDepth 100000
def Tryz.smallF (n:Int):Bool:=decide (-4611686018427387904≤n)&&decide (n<4611686018427387904)
def Tryz.okF (a:zD):Bool:=Tryz.smallF a.Register&&(Tryz.smallF a.Offset&&(Tryz.smallF a.zF.Kind&&(Tryz.smallF a.zF.Length&&Tryz.smallF a.zF.Scale)))
def Tryz.ltF (a b:zD):Bool:=decide (a.Register<b.Register)||(a.Register==b.Register&&(decide (a.Offset<b.Offset)||(a.Offset==b.Offset&&(decide (a.zF.Kind<b.zF.Kind)||(a.zF.Kind==b.zF.Kind&&(decide (a.zF.Length<b.zF.Length)||(a.zF.Length==b.zF.Length&&decide (a.zF.Scale<b.zF.Scale))))))))
theorem Tryz.okF_iff (a:zD):Tryz.okF a=true↔((-4611686018427387904≤a.Register∧a.Register<4611686018427387904)∧(-4611686018427387904≤a.Offset∧a.Offset<4611686018427387904)∧(-4611686018427387904≤a.zF.Kind∧a.zF.Kind<4611686018427387904)∧(-4611686018427387904≤a.zF.Length∧a.zF.Length<4611686018427387904)∧(-4611686018427387904≤a.zF.Scale∧a.zF.Scale<4611686018427387904)):=by
  simp [Tryz.okF,Tryz.smallF]
theorem Tryz.ltF_iff (a b:zD):Tryz.ltF a b=true↔(a.Register<b.Register∨(a.Register=b.Register∧(a.Offset<b.Offset∨(a.Offset=b.Offset∧(a.zF.Kind<b.zF.Kind∨(a.zF.Kind=b.zF.Kind∧(a.zF.Length<b.zF.Length∨(a.zF.Length=b.zF.Length∧a.zF.Scale<b.zF.Scale)))))))):=by
  simp [Tryz.ltF]
theorem Tryz.cmpF_lt (a b:zD):decide (Tryz.cmpF a b<0)=Tryz.ltF a b:=by
  rw [Bool.eq_iff_iff,Tryz.ltF_iff,decide_eq_true_iff]
  unfold Tryz.cmpF
  simp only [Tryz.orI]
  generalize a.Register=a0
  generalize b.Register=b0
  generalize a.Offset=a1
  generalize b.Offset=b1
  generalize a.zF.Kind=a2
  generalize b.zF.Kind=b2
  generalize a.zF.Length=a3
  generalize b.zF.Length=b3
  generalize a.zF.Scale=a4
  generalize b.zF.Scale=b4
  have hc:(a1<b1∧Tryz.cmpI a1 b1= -1)∨(b1<a1∧Tryz.cmpI a1 b1=1)∨(a1=b1∧Tryz.cmpI a1 b1=0):=by
    unfold Tryz.cmpI
    by_cases h1:a1<b1
    · exact .inl ⟨h1,if_pos h1⟩
    · rw [if_neg h1]
      by_cases h2:b1<a1
      · exact .inr (.inl ⟨h2,if_pos h2⟩)
      · exact .inr (.inr ⟨by omega,if_neg h2⟩)
  generalize Tryz.cmpI a1 b1=c at hc
  by_cases h0:a0-b0=0
  · rw [if_pos h0]
    by_cases h1:c=0
    · rw [if_pos h1]
      by_cases h2:a2-b2=0
      · rw [if_pos h2]
        by_cases h3:a3-b3=0
        · rw [if_pos h3]
          by_cases h4:a4-b4=0
          · rw [if_pos h4];omega
          · rw [if_neg h4];omega
        · rw [if_neg h3];omega
      · rw [if_neg h2];omega
    · rw [if_neg h1];omega
  · rw [if_neg h0];omega
theorem Tryz.ltF_swo:(∀x,Tryz.ltF x x=false)∧(∀x y z,Tryz.ltF x y=true→Tryz.ltF y z=true→Tryz.ltF x z=true)∧(∀x y z,Tryz.ltF x y=false→Tryz.ltF y z=false→Tryz.ltF x z=false):=by
  refine⟨fun x=> ?_,fun x y z=> ?_,fun x y z=> ?_⟩
  · rw [←Bool.not_eq_true,Tryz.ltF_iff];omega
  · rw [Tryz.ltF_iff,Tryz.ltF_iff,Tryz.ltF_iff];omega
  · rw [←Bool.not_eq_true,←Bool.not_eq_true,←Bool.not_eq_true,Tryz.ltF_iff,Tryz.ltF_iff,Tryz.ltF_iff];omega
theorem Tryz.ltF_eq (x y:zD) (h1:Tryz.ltF x y=false) (h2:Tryz.ltF y x=false):x=y:=by
  rw [←Bool.not_eq_true,Tryz.ltF_iff]at h1 h2
  obtain⟨r,⟨k,l,s⟩,o⟩:=x
  obtain⟨r',⟨k',l',s'⟩,o'⟩:=y
  simp only at h1 h2
  have e0:r=r':=by omega
  have e1:o=o':=by omega
  have e2:k=k':=by omega
  have e3:l=l':=by omega
  have e4:s=s':=by omega
  subst e0 e1 e2 e3 e4
  rfl
abbrev Tryz.Fk:={x:zD//Tryz.okF x=true}
instance:Inhabited Tryz.Fk:=⟨⟨⟨0,⟨0,0,0⟩,0⟩,by decide⟩⟩
theorem Tryz.cmpLays (blk off size:Nat) (w:World):CmpLays Tryz.prog 210 #[] (fun x:Tryz.Fk=>Tryz.fcells x.1) 5 (fun x y=>Tryz.cmpF x.1 y.1) blk off size w:=by
  intro m os dk _ x y
  have hx:=(Tryz.okF_iff _).1 x.2
  have hy:=(Tryz.okF_iff _).1 y.2
  exact Tryz.ord_compare x.1 y.1 (by rw [IntKind.wrap_i64];omega) (by rw [IntKind.wrap_i64];omega) (by rw [IntKind.wrap_i64];omega) (by rw [IntKind.wrap_i64];omega) _
end Go.Proofs
namespace Go.Proofs
open Go.RowKit Go.Maps Go.Sort Go.Shelf Go.Lib
open YtbmfjmakahmclaaGreatDoor.M (zD DataType)
set_option maxRecDepth 100000
theorem Tryz.ord_collect (Bn:Nat) (a:Option Addr) (cap:Nat) (xs:List zD) (w:World) (hBn:Bn<w.heap.size)
    (hsmall:xs.length*40≤70368744177664) (hcap:xs.length≤cap) (hc:w.cell? ⟨Bn,0,none⟩=some (.slice a xs.length cap)) (hL:Tryz.FactsAt w.heap.size w a xs):
    Calls Tryz.prog 285 #[.func (.func 287) #[] #[.pointer (some ⟨Bn,0,none⟩)]] w fun e W'=>∃v,e= .returned v∧W'.ownsRow w.heap.size 49 5 v xs.length (Tryz.flat xs)∧Below w.heap.size w W':=by
  refine(callsIn_wide (n:=6)).1 ?_
  have hA:=Tryz.ord_append Fence.wide 5 trivial trivial rfl (by omega) Bn a cap xs w hBn hsmall hcap hc hL
  have hF:Fence.wide.fn 318:=trivial
  refine callsIn_of_wp Tryz.func285 rfl trivial ?_ rfl
  simp only [Tryz.ntmps285,List.size_toArray,List.length_cons,List.length_nil,Nat.reduceAdd,Nat.reduceSub,Array.replicate_succ,Array.replicate_zero,List.push_toArray,List.append_toArray,List.nil_append,List.cons_append]
  gi_wp2_with (gi_at_call 318;refine hA.mono ?_;rintro e w' ⟨v,rfl,hrow,hb⟩)
  go_ret
  exact⟨_,rfl,hrow,hb⟩
theorem Tryz.flatK_flat (ds:List Tryz.Fk):(flatK (fun x:Tryz.Fk=>Tryz.fcells x.1) 5 ds.toArray).toList=Tryz.flat (ds.map (·.1)):=by
  apply List.ext_getElem?
  intro t
  have key:∀(ds:List Tryz.Fk) (t:Nat),(Tryz.flat (ds.map (·.1)))[t]?=(ds[t/5]?).bind fun x=>(Tryz.fcells x.1)[t%5]?:=by
    intro ds
    induction ds with
    | nil=>intro t;rfl
    | cons x ds ih=>
      intro t
      show(Tryz.fcells x.1++Tryz.flat (ds.map (·.1)))[t]?=_
      by_cases ht:t<5
      · rw [List.getElem?_append_left (by exact ht),show t/5=0 by omega,show t%5=t by omega]
        rfl
      · rw [List.getElem?_append_right (by show 5≤t;omega)]
        show(Tryz.flat (ds.map (·.1)))[t-5]?=_
        rw [ih,show t/5=(t-5)/5+1 by omega,show t%5=(t-5)%5 by omega]
        rfl
  rw [key]
  by_cases ht:t<ds.length*5
  · have h1:t<(flatK (fun x:Tryz.Fk=>Tryz.fcells x.1) 5 ds.toArray).size:=by rw [size_flatK];simpa using ht
    have hd:t/5<ds.length:=by omega
    have h2:=get_flatK (fun x:Tryz.Fk=>Tryz.fcells x.1) 5 ds.toArray t (by simpa using ht)
    rw [Array.getElem?_toList,Array.getElem?_eq_getElem h1,List.getElem?_eq_getElem hd,Option.bind_some]
    rw [getElem!_pos (flatK (fun x:Tryz.Fk=>Tryz.fcells x.1) 5 ds.toArray) t h1]at h2
    rw [h2]
    have h3:ds.toArray[t/5]! =ds[t/5]:=by rw [getElem!_pos ds.toArray (t/5) (by simpa using hd)];simp
    rw [h3]
    have h4:t%5<(Tryz.fcells ds[t/5].1).length:=by show t%5<5;omega
    rw [List.getElem?_eq_getElem h4,getElem!_pos (Tryz.fcells ds[t/5].1) (t%5) h4]
  · rw [Array.getElem?_toList,Array.getElem?_eq_none (by rw [size_flatK];simp;omega),List.getElem?_eq_none (by omega)]
    rfl
theorem Tryz.ord_sorted (Bn:Nat) (a:Option Addr) (cap:Nat) (xs:List zD) (hok:∀x∈xs,Tryz.okF x=true) (w:World) (hBn:Bn<w.heap.size)
    (hsmall:xs.length*40≤70368744177664) (hcap:xs.length≤cap) (hc:w.cell? ⟨Bn,0,none⟩=some (.slice a xs.length cap)) (hL:Tryz.FactsAt w.heap.size w a xs):
    Calls Tryz.prog 208 #[.func (.func 287) #[] #[.pointer (some ⟨Bn,0,none⟩)],.func (.func 210) #[] #[]] w fun e W'=>∃v ys,e= .returned v∧ys.Perm xs∧ys.Pairwise (fun x y=>Tryz.ltF y x=false)∧
      W'.ownsRow w.heap.size 49 5 v ys.length (Tryz.flat ys)∧Below w.heap.size w W':=by
  have hC:=Tryz.ord_collect Bn a cap xs w hBn hsmall hcap hc hL
  have e183:∀args w,(callFunc 285 args).run Tryz.prog w= .ok (.enter 285 args) w:=enters_of Tryz.func285 (by kernel_rfl) rfl
  have e184:∀args w,(callFunc 286 args).run Tryz.prog w= .ok (.enter 286 args) w:=enters_of Tryz.func286 (by kernel_rfl) rfl
  obtain⟨ds,hds⟩:∃ds:List Tryz.Fk,ds.map (·.1)=xs:=⟨xs.pmap Subtype.mk hok,by simp [List.map_pmap]⟩
  have hlen:ds.length=xs.length:=by rw [←hds];simp
  go_enter Tryz.func208,Tryz.ntmps208
  go_wp2_with (go_at_fn 285;refine hC.mono ?_;rintro e W ⟨v,rfl,hrow,hb⟩)
  rcases hrow.2 with⟨rfl,hz⟩|⟨g,cp,cur,rfl,hbase,hgb,r1,r2,r3,r4⟩
  · have hN:Calls Tryz.prog 286 #[.slice none 0 0,.func (.func 210) #[] #[]] W fun e w'=>e= .returned (.tuple #[])∧w'=W:=AnyF.slices_SortFunc_none Tryz.laysSF none 0 _ W
    have hx:xs=[]:=List.eq_nil_of_length_eq_zero hz
    go_wp2_with (go_at_fn 286;refine hN.mono ?_;rintro e w' ⟨rfl,rfl⟩)
    go_ret
    subst hx
    exact⟨_,[],rfl,List.Perm.refl _,List.Pairwise.nil,hrow,hb⟩
  · have hgl:g<W.heap.size:=(Array.getElem?_eq_some_iff.1 hgb).1
    have hH:HoldsK (fun x:Tryz.Fk=>Tryz.fcells x.1) 5 W g 0 ds.toArray:=by
      intro j hj
      rw [size_flatK]at hj
      have hj':j<xs.length*5:=by simpa [hlen]using hj
      refine⟨?_,by simp [World.frozen?,hgb]⟩
      have h1:(cur.toList.take (xs.length*5))[j]?=(flatK (fun x:Tryz.Fk=>Tryz.fcells x.1) 5 ds.toArray).toList[j]?:=by rw [r4,Tryz.flatK_flat,hds]
      rw [List.getElem?_take_of_lt hj',Array.getElem?_toList,Array.getElem?_toList]at h1
      simp only [World.cell?,hgb,Nat.zero_add]
      simp only [Option.isSome_none,Bool.false_eq_true,if_false]
      rw [h1,Array.getElem?_eq_getElem (by rw [size_flatK];exact hj),getElem!_pos _ _ (by rw [size_flatK];exact hj)]
      rfl
    have hsw:SWO (ltOf fun x y:Tryz.Fk=>Tryz.cmpF x.1 y.1):=by
      have e:∀x y:Tryz.Fk,ltOf (fun x y:Tryz.Fk=>Tryz.cmpF x.1 y.1) x y=Tryz.ltF x.1 y.1:=fun x y=>Tryz.cmpF_lt x.1 y.1
      obtain⟨s1,s2,s3⟩:=Tryz.ltF_swo
      exact⟨fun x=>by rw [e];exact s1 _,fun x y z=>by rw [e,e,e];exact s2 _ _ _,fun x y z=>by rw [e,e,e];exact s3 _ _ _⟩
    have hS:Calls Tryz.prog 286 #[.slice (some ⟨g,0,none⟩) xs.length cp,.func (.func 210) #[] #[]] W fun e w'=>e= .returned (.tuple #[])∧∃d' n os,PermIn 0 ds.toArray.size ds.toArray d'∧SortedIn (ltOf fun x y:Tryz.Fk=>Tryz.cmpF x.1 y.1) 0 ds.toArray.size d'∧
        w'=sortWorldK (fun x:Tryz.Fk=>Tryz.fcells x.1) 5 W g 0 n d' os:=by
      have:=AnyQ.slices_SortFunc Tryz.laysSF 5 Tryz.isAgg49 Tryz.sizeOf49 (fun x:Tryz.Fk=>Tryz.fcells x.1) (fun _=>rfl) (fun x v hv=>by simp [Tryz.fcells]at hv;rcases hv with rfl|rfl|rfl|rfl|rfl<;>rfl) (fun x y=>Tryz.cmpF x.1 y.1) hsw 210 #[] g 0 cp ds.toArray W
        (enters_of Tryz.func210 (by kernel_rfl) rfl) (Tryz.cmpLays g 0 _ W) hH hgl (by simp;omega)
      rw [show ds.toArray.size=xs.length by simpa using hlen]at this⊢
      exact this
    go_wp2_with (go_at_fn 286;refine hS.mono ?_;rintro e w' ⟨rfl,d',n,os,hp,hs,rfl⟩)
    go_ret
    have hsz:d'.size=ds.length:=by simpa using hp.1
    have hperm:d'.toList.Perm ds:=by
      have:=hp.2.2
      simpa [Array.extract_eq_self_of_le,hsz]using this
    have hkey:(grow (putRow id (Sort.ahead W n) g 0 (flatK (fun x:Tryz.Fk=>Tryz.fcells x.1) 5 d')) os).heap[g]?=some (.cells (putCells id 0 (flatK (fun x:Tryz.Fk=>Tryz.fcells x.1) 5 d') cur) 49 (0,0)):=by
      rw [heap_grow_old _ _ (by simpa using hgl)]
      simp [putRow,mapBlock,Sort.ahead,Array.getElem?_modify,hgb,onCells]
    refine⟨_,d'.toList.map (·.1),rfl,?_,?_,⟨?_,.inr ⟨g,cp,_,?_,hbase,hkey,?_,r2,?_,?_⟩⟩,?_⟩
    · rw [←hds]
      exact hperm.map _
    · rw [List.pairwise_map,List.pairwise_iff_getElem]
      intro i j hi hj hij
      have hi':i<d'.size:=by simpa using hi
      have hj':j<d'.size:=by simpa using hj
      have h:=hs i j (Nat.zero_le _) hij (by simpa [hsz]using hj')
      rw [getElem!_pos d' i hi',getElem!_pos d' j hj']at h
      have e:=Tryz.cmpF_lt d'[j].1 d'[i].1
      simp only [ltOf]at h
      simpa [ltOf]using e▸h
    · have:=congrArg List.length (Tryz.flatK_flat d'.toList)
      simpa [size_flatK]using this.symm
    · simp [hsz,hlen]
    · simp [hsz,hlen];omega
    · simp [putCells,r3]
    · have hl5:(Tryz.flat (d'.toList.map (·.1)))=(flatK (fun x:Tryz.Fk=>Tryz.fcells x.1) 5 d').toList:=by
        rw [←Tryz.flatK_flat]
      rw [hl5]
      apply List.ext_getElem?
      intro j
      by_cases hj:j<xs.length*5
      · rw [List.getElem?_take_of_lt (by simpa [hsz,hlen]using hj),Array.getElem?_toList,Array.getElem?_toList]
        have hjc:j<cur.size:=by rw [r3];exact Nat.lt_of_lt_of_le hj (Nat.mul_le_mul_right _ r1)
        have hjd:j<(flatK (fun x:Tryz.Fk=>Tryz.fcells x.1) 5 d').size:=by rw [size_flatK,hsz,hlen];exact hj
        simp [putCells,hjc,hsz,hlen,hj]
      · rw [List.getElem?_take_eq_none (by simp [hsz,hlen];omega),List.getElem?_eq_none (by simp [size_flatK,hsz,hlen];omega)]
    · refine hb.trans ⟨rfl,rfl,rfl,?_,fun k hk=> ?_⟩
      · simp [sortWorldK,grow,putRowK,putRow,mapBlock,Sort.ahead]
      · have hk':k<W.heap.size:=by omega
        show(grow (putRow id (Sort.ahead W n) g 0 (flatK (fun x:Tryz.Fk=>Tryz.fcells x.1) 5 d')) os).heap[k]?=_
        rw [heap_grow_old _ _ (by simpa using hk')]
        have:g≠k:=by omega
        simp [putRow,mapBlock,Sort.ahead,Array.getElem?_modify,this]
end Go.Proofs
namespace Go.Proofs
open Go.Shelf Go.RowKit Go.Lib Go.Sort
variable {P:Program} {ρ:Ren} {α:Type} [Inhabited α] [DecidableEq α]
structure LaysCompactK (P:Program) (ρ:Ren):Prop where
  mixed:P.follows .mixedOrders=true
  f43:Bears P (ρ.f 43) (SlBodyN.n43 ρ)
  t0:P.underlying (ρ.t 0)=some (TypeDesc.tuple #[])
  a0:∀w,(isAgg (ρ.t 0)).run P w= .ok false w
  z0:∀w,(Go.sizeOf (ρ.t 0)).run P w= .ok 1 w
  v0:∀w,(zeroValue (ρ.t 0)).run P w= .ok (Value.tuple #[]) w
  t3:P.underlying (ρ.t 3)=some (TypeDesc.int IntKind.i64)
  a3:∀w,(isAgg (ρ.t 3)).run P w= .ok false w
  z3:∀w,(Go.sizeOf (ρ.t 3)).run P w= .ok 1 w
  v3:∀w,(zeroValue (ρ.t 3)).run P w= .ok (Value.int IntKind.i64 0) w
  t4:P.underlying (ρ.t 4)=some (TypeDesc.bool)
  a4:∀w,(isAgg (ρ.t 4)).run P w= .ok false w
  z4:∀w,(Go.sizeOf (ρ.t 4)).run P w= .ok 1 w
  v4:∀w,(zeroValue (ρ.t 4)).run P w= .ok (Value.bool false) w
  t22:P.underlying (ρ.t 22)=some (TypeDesc.slice (ρ.t 23))
  a22:∀w,(isAgg (ρ.t 22)).run P w= .ok false w
  z22:∀w,(Go.sizeOf (ρ.t 22)).run P w= .ok 1 w
  v22:∀w,(zeroValue (ρ.t 22)).run P w= .ok (Value.slice none 0 0) w
omit [Inhabited α] [DecidableEq α]in
theorem zzc (w:World) (t e ty:TypeId) (z:Value) (ht:P.underlying t=some (.slice e)) (hv:∀w,(zeroValue e).run P w= .ok z w) (h1:∀v∈z.cells.toList,v.oneCell'=true) (hz:0<z.cells.size) (b o n c:Nat) (hn:0<n)
    (hc:∀j,j<n*z.cells.size→(w.cell? ⟨b,o+j,none⟩).isSome=true) (hf:∀j,j<n*z.cells.size→w.frozen? ⟨b,o+j,none⟩=false):
    (Builtin.clear_ #[t] ty #[.slice (some ⟨b,o,none⟩) n c]).run P w= .ok (.tuple #[]) (w.setCells b o (Builtin.zeroCells z.cells n).toList):=by
  have hl:(Builtin.zeroCells z.cells n).toList.length=n*z.cells.size:=by simp [Builtin.zeroCells]
  have hst:=run_storeCells_cells (P:=P) b o (Builtin.zeroCells z.cells n).toList 0 w (fun j hj=>by rw [hl]at hj;exact hc j hj) (fun j hj=>by rw [hl]at hj;exact hf j hj) (by
    intro u hu
    simp only [Builtin.zeroCells,Array.toList_map,List.mem_map]at hu
    obtain⟨q,_,rfl⟩:=hu
    have hm:=Nat.mod_lt q hz
    have:z.cells[q%z.cells.size]! =z.cells[q%z.cells.size]:=by simp [hm]
    rw [this]
    exact h1 _ (by simp))
  simp only [Nat.add_zero]at hst
  obtain⟨m,rfl⟩:∃m,n=m+1:=⟨n-1,by omega⟩
  simp [Builtin.clear_,run_underlying ht,hv,hst]
omit [DecidableEq α]in
theorem z8m (enc:α→List Value) (k:Nat) (hk:∀x,(enc x).length=k) (d:Array α) (i:Nat) (hi:i<d.size) (u:α):
    setMany (flatK enc k d) (i*k) (enc u)=flatK enc k (d.setIfInBounds i u):=by
  refine ext_get! (by simp) fun t ht=> ?_
  have ht':t<d.size*k:=by simpa using ht
  have k0 : 0 < k := by rcases Nat.eq_zero_or_pos k with h | h; · subst h; simp at ht'
                        · exact h
  rw [get_setMany _ _ _ t (by simpa using ht'),get_flatK _ _ _ t ht',get_flatK _ _ _ t (by simpa using ht'),hk]
  by_cases a:t/k=i
  · have m:t-i*k=t%k:=by subst a;rw [Nat.mod_eq_sub_div_mul]
    rw [if_pos ((blk_iff k i t k0).2 a),m,a,getElem!_set_same d i u hi]
  · rw [if_neg (fun h=>a ((blk_iff k i t k0).1 h)),getElem!_set_other d i (t/k) u a]
set_option maxHeartbeats 4000000 in
set_option maxRecDepth 1000000 in
theorem zafa (L:LaysCompactK P ρ) (c:Nat) (hc0:0<c) (aE:∀w,(isAgg (ρ.t 23)).run P w= .ok true w) (zE:∀w,(Go.sizeOf (ρ.t 23)).run P w= .ok c w) (enc:α→List Value) (hk:∀x,(enc x).length=c) (h1:∀x,∀v∈enc x,v.oneCell'=true)
    (heq:EqlAt P (ρ.t 23) (fun x=> .agg (enc x).toArray) (fun x y=>decide (x=y))) (hne:∀(x y:α) (w:World),Sem.run P (binOp .neq (ρ.t 23) (.agg (enc x).toArray) (.agg (enc y).toArray)) w= .ok (.bool (!decide (x=y))) w)
    (zv:Value) (v23:∀w,(zeroValue (ρ.t 23)).run P w= .ok zv w) (hz1:∀v∈zv.cells.toList,v.oneCell'=true) (hzc:zv.cells.size=c)
    (blk off cap:Nat) (d:Array α) (w:World) (hH:HoldsK enc c w blk off d) (hsz:d.size≤9223372036854775807) (hcap:d.size≤cap):
    Calls P (ρ.f 43) #[.slice (some ⟨blk,off,none⟩) d.size cap] w fun e w'=>e= .returned (.slice (some ⟨blk,off,none⟩) (compactUpTo d d.size).length cap)∧
      ∃(q:Nat) (F:Array Value),F.size=d.size*c∧w'=putRow id (Sort.ahead w q) blk off F∧∀t,t<(compactUpTo d d.size).length*c→F[t]! =(flatK enc c (compactUpTo d d.size).toArray)[t]!:=by
  have mixed:=L.mixed;have t0:=L.t0;have a0:=L.a0;have z0:=L.z0;have v0:=L.v0;have t3:=L.t3;have a3:=L.a3;have z3:=L.z3;have v3:=L.v3;have t4:=L.t4;have a4:=L.a4;have z4:=L.z4;have v4:=L.v4;have t22:=L.t22;have a22:=L.a22;have z22:=L.z22;have v22:=L.v22
  have heq':∀(x y:α) (w:World),Sem.run P (binOp .eql (ρ.t 23) (.agg (enc x).toArray) (.agg (enc y).toArray)) w= .ok (.bool (decide (x=y))) w:=heq.1
  have hgd':∀(op:BinOp) (a b:Operand) (x y:α) (w:World),Sem.run P (eqGuard op (ρ.t 23) a b (.agg (enc x).toArray) (.agg (enc y).toArray)) w= .ok () w:=heq.2
  have HK:Hid (∀x,(enc x).length=c):=hk
  have H1:Hid (∀x,∀v∈enc x,v.oneCell'=true):=h1
  have same:∀q,(∀j,j<d.size→keeps d j=true)→(compactUpTo d d.size).length=d.size∧
      ∃(q':Nat) (F:Array Value),F.size=d.size*c∧w.drewN q=putRow id (Sort.ahead w q') blk off F∧∀t,t<(compactUpTo d d.size).length*c→F[t]! =(flatK enc c (compactUpTo d d.size).toArray)[t]!:=by
    intro q hall
    have e:compactUpTo d d.size=d.toList:=by rw [compactUpTo_all d _ hall,range_map_get]
    rw [e]
    refine⟨by simp,q,flatK enc c d,by simp,?_,fun t _=>by simp⟩
    exact(putRowK_self enc c (Sort.ahead w q) blk off d (holdsK_ahead enc c w q blk off d hH)).symm
  have HS:Aside _:=same
  clear same
  have HHH:Hid (HoldsK enc c w blk off d):=hH
  clear hk h1 heq
  by_cases h2:d.size<2
  · clear hH
    obtain⟨_,_,FG⟩:=L.f43
    go_enter FG,SlBodyN.n43_ntmps ρ
    go_wp2
    go_ret
    obtain⟨e1,e2⟩:=HS.out 0 (fun j hj=>keeps_lt_one d j (by omega))
    exact⟨by rw [e1];rfl,e2⟩
  · obtain⟨_,_,FG⟩:=L.f43
    clear hH
    go_enter FG,SlBodyN.n43_ntmps ρ
    go_wp2
    go_loopg [3] d.size (fun g s3 wr=>∃k q:Nat,1≤k∧k≤d.size∧d.size-k≤g∧s3= .int .i64 k∧wr=w.drewN q∧∀j,j<k→keeps d j=true)
    case atStart=>exact⟨1,0,Nat.le_refl _,by omega,by omega,rfl,rfl,keeps_lt_one d⟩
    case round=>
      obtain⟨k,q,hk1,hkd,hg,rfl,hwr,hall⟩:=hrel
      by_cases hlt:k<d.size
      · have hHq:HoldsK enc c wr.drew blk off d:=by rw [hwr];exact holdsK_ahead enc c w (q+1) blk off d HHH.out
        have l1:Sem.run P (loadCellsFrom ⟨blk,off+k*c,none⟩ 0 c #[]) wr.drew= .ok (enc d[k]!).toArray wr.drew:=run_loadCellsFrom_list P _ _ _ c (HK.out _) (HoldsK.cells hHq HK.out (by omega))
        have l0:Sem.run P (loadCellsFrom ⟨blk,off+(k-1)*c,none⟩ 0 c #[]) wr.drew= .ok (enc d[k-1]!).toArray wr.drew:=run_loadCellsFrom_list P _ _ _ c (HK.out _) (HoldsK.cells hHq HK.out (by omega))
        have lx:(enc d[k]!).length=c:=HK.out _
        have ly:(enc d[k-1]!).length=c:=HK.out _
        have WR:Aside (wr=w.drewN q):=hwr
        clear hwr
        have A:Aside (∀j,j<k→keeps d j=true):=hall
        obtain⟨p,hp⟩:∃p,k-1=p:=⟨_,rfl⟩
        rw [hp]at l0 ly
        have hpd:p<d.size:=by omega
        have hpk:k=p+1:=by omega
        subst hpk
        clear hall hHq
        generalize hx:d[p+1]! =x at l1 lx
        generalize hy:d[p]! =y at l0 ly
        have B:Aside (d[p+1]! =x∧d[p]! =y):=⟨hx,hy⟩
        clear hx hy
        by_cases hdup:x=y
        · subst hdup
          go_wp2_with fail
          go_big_region_o
          all_goals go_wp2
          clear l1 l0
          go_loopg [3,5] d.size (fun g s3 s5 wr=>∃(kk k2 q2:Nat) (dk:Array α),s3= .int .i64 kk∧s5= .int .i64 k2∧1≤k2∧(p+1)+k2≤d.size∧d.size-((p+1)+k2)≤g∧wr=putRowK enc c (Sort.ahead w q2) blk off dk∧CompInv d ((p+1)+k2) kk dk)
          case atStart=>exact⟨p+1,1,q+1,d,rfl,rfl,Nat.le_refl _,by omega,by omega,by rw [WR.out];exact(putRowK_self enc c (Sort.ahead w (q+1)) blk off d (holdsK_ahead enc c w (q+1) blk off d HHH.out)).symm,CompInv.start A.out (keeps_neg (by omega) (by rw [Nat.add_sub_cancel,B.out.1,B.out.2]))⟩
          case round=>
            obtain⟨kk,k2,q2,dk,rfl,rfl,h1,hle,hg2,hwr2,hI⟩:=hrel
            have hkk:=hI.lt
            have hds:=hI.size
            have bnd:∀x,x<dk.size→x*c+c≤dk.size*c:=fun x hx=>by
              have:=Nat.mul_le_mul_right c (show x+1≤dk.size from hx);rwa [Nat.add_mul,Nat.one_mul]at this
            have hHk:HoldsK enc c wr.drew blk off dk:=by rw [hwr2];exact holdsK_putRowK enc c _ blk off d dk (holdsK_ahead enc c w (q2+1) blk off d HHH.out) hds
            have W2:Aside (wr=putRowK enc c (Sort.ahead w q2) blk off dk):=hwr2
            have I2:Aside (CompInv d ((p+1)+k2) kk dk):=hI
            by_cases hlt2:(p+1)+k2<d.size
            · obtain⟨r,rfl⟩:∃r,k2=r+1:=⟨k2-1,by omega⟩
              have lm:Sem.run P (loadCellsFrom ⟨blk,off+(p+1)*c+(r+1)*c,none⟩ 0 c #[]) wr.drew= .ok (enc d[(p+1)+(r+1)]!).toArray wr.drew:=by
                have:=run_loadCellsFrom_list P _ _ _ c (HK.out _) (HoldsK.cells hHk HK.out (i:=(p+1)+(r+1)) (by omega))
                rw [hI.high _ (by omega),Nat.add_mul,←Nat.add_assoc]at this
                exact this
              have lp:Sem.run P (loadCellsFrom ⟨blk,off+(p+1)*c+r*c,none⟩ 0 c #[]) wr.drew= .ok (enc d[(p+1)+r]!).toArray wr.drew:=by
                have:=run_loadCellsFrom_list P _ _ _ c (HK.out _) (HoldsK.cells hHk HK.out (i:=(p+1)+r) (by omega))
                rw [hI.high _ (by omega),Nat.add_mul,←Nat.add_assoc]at this
                exact this
              have lu:(enc d[(p+1)+(r+1)]!).length=c:=HK.out _
              have lv:(enc d[(p+1)+r]!).length=c:=HK.out _
              have st:Sem.run P (storeCells ⟨blk,off+kk*c,none⟩ (enc d[(p+1)+(r+1)]!) 0) wr.drew= .ok () (wr.drew.setCells blk (off+kk*c) (enc d[(p+1)+(r+1)]!)):=stores_of_holds P hHk (kk*c) _ (by rw [HK.out,size_flatK];exact bnd kk (by omega)) (H1.out _)
              clear hHk hI hwr2
              generalize hu:d[(p+1)+(r+1)]! =u at lm lu st
              generalize hv:d[(p+1)+r]! =v at lp lv
              have C:Aside (d[(p+1)+(r+1)]! =u∧d[(p+1)+r]! =v):=⟨hu,hv⟩
              clear hu hv
              by_cases huv:u=v
              · subst huv
                go_wp2_with fail
                go_big_region_o
                all_goals go_wp2
                go_roundg (d.size-((p+1)+(r+2)))
                case measure=>omega
                case rel=>exact⟨kk,r+2,q2+1,dk,rfl,by go_num,by omega,by omega,Nat.le_refl _,by rw [W2.out];rfl,I2.out.skip (keeps_neg (by omega) (by rw [C.out.1,show p+1+(r+1)-1=p+1+r by omega,C.out.2]))⟩
              · go_wp2_with fail
                go_big_region_o
                all_goals go_wp2
                go_roundg (d.size-((p+1)+(r+2)))
                case measure=>omega
                case rel=>
                  refine⟨kk+1,r+2,q2+1,dk.setIfInBounds kk u,by go_num,by go_num,by omega,by omega,Nat.le_refl _,?_,by have:=I2.out.keep hlt2 (keeps_pos (by rw [C.out.1,show p+1+(r+1)-1=p+1+r by omega,C.out.2];exact huv));rwa [C.out.1]at this⟩
                  rw [W2.out]
                  show(putRow id (Sort.ahead w (q2+1)) blk off (flatK enc c dk)).setCells blk (off+kk*c) (enc u)=_
                  rw [setCells_putRow _ _ _ _ _ _ (by rw [HK.out,size_flatK];exact bnd kk (by omega)),z8m enc c HK.out dk kk (by omega) u]
                  rfl
            · have hend:(p+1)+k2=d.size:=by omega
              have hHk':HoldsK enc c wr blk off dk:=by rw [hwr2];exact holdsK_putRowK enc c _ blk off d dk (holdsK_ahead enc c w q2 blk off d HHH.out) hds
              obtain⟨Z,hZ,hcl⟩:∃Z:List Value,Z.length=(d.size-kk)*c∧∀ty,(Builtin.clear_ #[ρ.t 22] ty #[.slice (some ⟨blk,off+kk*c,none⟩) (d.size-kk) (cap-kk)]).run P wr= .ok (.tuple #[]) (wr.setCells blk (off+kk*c) Z):=
                ⟨(Builtin.zeroCells zv.cells (d.size-kk)).toList,by simp [Builtin.zeroCells,hzc],fun ty=>by
                  have key:∀j,j<(d.size-kk)*zv.cells.size→(wr.cell? ⟨blk,off+kk*c+j,none⟩).isSome=true∧wr.frozen? ⟨blk,off+kk*c+j,none⟩=false:=fun j hj=>by
                    rw [hzc,Nat.sub_mul]at hj
                    have b2:kk*c≤d.size*c:=Nat.mul_le_mul_right c (by omega)
                    have:=hHk' (kk*c+j) (by rw [size_flatK,hds];omega)
                    rw [←Nat.add_assoc]at this
                    exact⟨by rw [this.1];rfl,this.2⟩
                  exact zzc wr _ _ ty _ t22 v23 hz1 (by omega) blk (off+kk*c) _ _ (by omega) (fun j hj=>(key j hj).1) (fun j hj=>(key j hj).2)⟩
              have HZ:Aside (Z.length=(d.size-kk)*c):=hZ
              clear hZ
              clear hHk hI hHk' hwr2
              go_wp2
              go_ret
              have hI:=I2.out
              rw [hend]at hI
              have hlz:=HZ.out
              have b3:kk*c+(d.size-kk)*c=dk.size*c:=by rw [←Nat.add_mul,hds];congr 1;omega
              refine⟨by rw [hI.len];rfl,q2,setMany (flatK enc c dk) (kk*c) Z,by simp [hds],?_,fun t ht=> ?_⟩
              · rw [W2.out]
                exact setCells_putRow _ _ _ _ _ _ (by rw [hlz,size_flatK,b3];exact Nat.le_refl _)
              · rw [hI.len]at ht
                have hkd':kk*c≤dk.size*c:=Nat.mul_le_mul_right c (by omega)
                rw [get_setMany _ _ _ t (by rw [size_flatK];omega),if_neg (by omega),get_flatK _ _ _ t (by omega),get_flatK _ _ _ t (by simpa [hI.len]using ht)]
                have htk:t/c<kk:=(Nat.div_lt_iff_lt_mul hc0).2 ht
                have:=hI.low (t/c) htk
                congr 2
                have hlt3:t/c<(compactUpTo d d.size).length:=by rw [hI.len];exact htk
                rw [List.getElem?_eq_getElem hlt3]at this
                rw [getElem!_pos (compactUpTo d d.size).toArray (t/c) (by simpa using hlt3)]
                simpa using this.symm
        · go_wp2_with fail
          go_big_region_o
          all_goals go_wp2
          go_roundg (d.size-(p+2))
          case measure=>omega
          case rel=>
            refine⟨p+2,q+1,by omega,by omega,Nat.le_refl _,by go_num,by rw [WR.out];rfl,fun j hj=> ?_⟩
            by_cases e:j=p+1
            · subst e
              exact keeps_pos (by rw [Nat.add_sub_cancel,B.out.1,B.out.2];exact hdup)
            · exact A.out j (by omega)
      · have:k=d.size:=by omega
        subst this
        subst hwr
        go_wp2
        go_ret
        obtain⟨e1,e2⟩:=HS.out q hall
        exact⟨by rw [e1];rfl,e2⟩
end Go.Proofs
namespace Go.Proofs
open Go.Shelf
set_option maxRecDepth 100000
def Tryz.laysCP_ren:Go.Shelf.Ren:=⟨fun|43=>207|n=>n,fun|22=>45|23=>49|3=>3|4=>4|0=>0|n=>n,fun n=>n⟩
theorem Tryz.laysCP:LaysCompactK Tryz.prog Tryz.laysCP_ren:={
  mixed:=by kernel_rfl
  f43:=⟨Tryz.f207.name,by decide,Tryz.func207.trans (congrArg some (by kernel_rfl))⟩
  t0:=Tryz.underlying0
  a0:=Tryz.isAgg0
  z0:=Tryz.sizeOf0
  v0:=Tryz.zeroValue0
  t3:=Tryz.underlying3
  a3:=Tryz.isAgg3
  z3:=Tryz.sizeOf3
  v3:=Tryz.zeroValue3
  t4:=Tryz.underlying4
  a4:=Tryz.isAgg4
  z4:=Tryz.sizeOf4
  v4:=Tryz.zeroValue4
  t22:=Tryz.underlying45
  a22:=Tryz.isAgg45
  z22:=Tryz.sizeOf45
  v22:=Tryz.zeroValue45
}
end Go.Proofs
namespace Go.Proofs
open Go.RowKit Go.Maps Go.Sort Go.Shelf Go.Lib
open YtbmfjmakahmclaaGreatDoor.M (zD DataType)
set_option maxRecDepth 100000
instance Tryz.inhF:Inhabited zD:=⟨⟨0,⟨0,0,0⟩,0⟩⟩
instance Tryz.decF:DecidableEq zD:=fun x y=>
  decidable_of_iff (x.Register=y.Register∧x.zF.Kind=y.zF.Kind∧x.zF.Length=y.zF.Length∧x.zF.Scale=y.zF.Scale∧x.Offset=y.Offset) (by
    obtain⟨r,⟨k,l,s⟩,o⟩:=x
    obtain⟨r',⟨k',l',s'⟩,o'⟩:=y
    simp only [zD.mk.injEq,DataType.mk.injEq,and_assoc])
theorem Tryz.eqF_dec (x y:zD):decide (x=y)=(decide (x.Register=y.Register)&&(decide (x.zF.Kind=y.zF.Kind)&&(decide (x.zF.Length=y.zF.Length)&&(decide (x.zF.Scale=y.zF.Scale)&&decide (x.Offset=y.Offset))))):=by
  obtain⟨r,⟨k,l,s⟩,o⟩:=x
  obtain⟨r',⟨k',l',s'⟩,o'⟩:=y
  simp only [zD.mk.injEq,DataType.mk.injEq,and_assoc,Bool.decide_and]
theorem Tryz.eqF:EqlAt Tryz.prog 49 (fun x:zD=> .agg (Tryz.fcells x).toArray) (fun x y=>decide (x=y)):=by
  refine⟨fun x y w=> ?_,GuardAt.agg _ (by kernel_rfl)⟩
  have u3:=Tryz.underlying3
  have a3:=Tryz.isAgg3
  have z3:=Tryz.sizeOf3
  have hS:Tryz.prog.underlying 49=some (.struct (Tryz.prog.fieldsOf 49)):=by kernel_rfl
  have hp:Tryz.prog.stoodInHeld 49=false:=by kernel_rfl
  simp only [Tryz.fcells]
  rw [run_eql_struct,show(10000:Nat)=9999+1 from rfl,run_equalIn_agg w 9999 49 _ _ hS hp,Tryz.eqF_dec]
  simp only [Program.fieldsOf,Tryz.underlying49]
  go_simp
  by_cases h1:x.Register=y.Register<;>by_cases h2:x.zF.Kind=y.zF.Kind<;>by_cases h3:x.zF.Length=y.zF.Length<;>by_cases h4:x.zF.Scale=y.zF.Scale<;>by_cases h5:x.Offset=y.Offset<;>simp [h1,h2,h3,h4,h5]
theorem Tryz.neF (x y:zD) (w:World):Sem.run Tryz.prog (binOp .neq 49 (.agg (Tryz.fcells x).toArray) (.agg (Tryz.fcells y).toArray)) w= .ok (.bool (!decide (x=y))) w:=by
  have h:=Tryz.eqF.1 x y w
  rw [run_eql_struct]at h
  rw [run_neq_struct]
  cases hq:(Op.equalIn 10000 49 (.agg (Tryz.fcells x).toArray) (.agg (Tryz.fcells y).toArray)).run Tryz.prog w with
  | ok b w'=>
    rw [hq]at h
    simp only [Result.andThen_ok,Result.ok.injEq,Value.bool.injEq]at h⊢
    obtain⟨rfl,rfl⟩:=h
    exact⟨rfl,rfl⟩
  | _=>rw [hq]at h;cases h
theorem Tryz.ord_compact (ys:List zD) (hs:ys.length≤9223372036854775807) (blk cap:Nat) (hcap:ys.length≤cap) (w:World) (hH:HoldsK Tryz.fcells 5 w blk 0 ys.toArray):
    Calls Tryz.prog 207 #[.slice (some ⟨blk,0,none⟩) ys.length cap] w fun e w'=>e= .returned (.slice (some ⟨blk,0,none⟩) (compact ys).length cap)∧
      ∃(q:Nat) (F:Array Value),F.size=ys.length*5∧w'=putRow id (Sort.ahead w q) blk 0 F∧∀t,t<(compact ys).length*5→F[t]! =(flatK Tryz.fcells 5 (compact ys).toArray)[t]!:=by
  have:=zafa Tryz.laysCP 5 (by omega) Tryz.isAgg49 Tryz.sizeOf49 Tryz.fcells (fun _=>rfl) (fun x v hv=>by simp [Tryz.fcells]at hv;rcases hv with rfl|rfl|rfl|rfl|rfl<;>rfl) Tryz.eqF Tryz.neF _ Tryz.zeroValue49
    (by simp [Value.cells];rfl) (by simp [Value.cells]) blk 0 cap ys.toArray w hH (by simpa using hs) (by simpa using hcap)
  change Calls Tryz.prog 207 _ _ _ at this
  simpa [compact]using this
theorem Tryz.ord_compact_nil (a:Option Addr) (cap:Nat) (w:World):
    Calls Tryz.prog 207 #[.slice a 0 cap] w fun e w'=>e= .returned (.slice a 0 cap)∧w'=w:=by
  go_enter Tryz.func207,Tryz.ntmps207
  go_wp2
  go_ret
  exact⟨rfl,rfl⟩
end Go.Proofs
namespace Go.Proofs
open Go.RowKit Go.Maps Go.Sort Go.Shelf Go.Lib
open YtbmfjmakahmclaaGreatDoor.M (zD DataType)
set_option maxRecDepth 100000
theorem Tryz.mem_insD {α:Type} (lt:α→α→Bool) (heq:∀x y,lt x y=false→lt y x=false→x=y) (x z:α):∀l,z∈Amx.insD lt x l↔z=x∨z∈l:=by
  intro l
  induction l with
  | nil=>simp [Amx.insD]
  | cons y l ih=>
    rw [Amx.insD]
    cases h1:lt x y with
    | true=>simp
    | false=>
      cases h2:lt y x with
      | true=>simp [ih];constructor<;>(rintro (h|h|h)<;>simp [h])
      | false=>
        have:=heq x y h1 h2
        subst this
        simp
theorem Tryz.sorted_insD {α:Type} (lt:α→α→Bool) (htr:∀x y z,lt x y=true→lt y z=true→lt x z=true) (heq:∀x y,lt x y=false→lt y x=false→x=y) (x:α):∀l:List α,l.Pairwise (fun a b=>lt a b=true)→(Amx.insD lt x l).Pairwise (fun a b=>lt a b=true):=by
  intro l
  induction l with
  | nil=>intro _;simp [Amx.insD]
  | cons y l ih=>
    intro h
    obtain⟨ha,hb⟩:=List.pairwise_cons.1 h
    rw [Amx.insD]
    cases h1:lt x y with
    | true=>
      refine List.pairwise_cons.2 ⟨fun z hz=> ?_,h⟩
      rcases List.mem_cons.1 hz with rfl|hz
      · exact h1
      · exact htr _ _ _ h1 (ha z hz)
    | false=>
      cases h2:lt y x with
      | true=>
        refine List.pairwise_cons.2 ⟨fun z hz=> ?_,ih hb⟩
        rcases(Tryz.mem_insD lt heq x z l).1 hz with rfl|hz
        · exact h2
        · exact ha z hz
      | false=>exact h
theorem Tryz.mem_ordD {α:Type} (lt:α→α→Bool) (heq:∀x y,lt x y=false→lt y x=false→x=y) (z:α):∀l,z∈Amx.ordD lt l↔z∈l
  | []=>by simp [Amx.ordD]
  | x::l=>by rw [Amx.ordD,Tryz.mem_insD lt heq,Tryz.mem_ordD lt heq z l,List.mem_cons]
theorem Tryz.sorted_ordD {α:Type} (lt:α→α→Bool) (htr:∀x y z,lt x y=true→lt y z=true→lt x z=true) (heq:∀x y,lt x y=false→lt y x=false→x=y):∀l:List α,(Amx.ordD lt l).Pairwise (fun a b=>lt a b=true)
  | []=>by simp [Amx.ordD]
  | x::l=>by rw [Amx.ordD];exact Tryz.sorted_insD lt htr heq x _ (Tryz.sorted_ordD lt htr heq l)
theorem Tryz.strict_unique {α:Type} (lt:α→α→Bool) (hir:∀x,lt x x=false) (htr:∀x y z,lt x y=true→lt y z=true→lt x z=true):∀(a b:List α),a.Pairwise (fun a b=>lt a b=true)→b.Pairwise (fun a b=>lt a b=true)→(∀z,z∈a↔z∈b)→a=b
  | [],[],_,_,_=>rfl
  | [],y::b,_,_,h=>by have:=(h y).2 (by simp);simp at this
  | x::a,[],_,_,h=>by have:=(h x).1 (by simp);simp at this
  | x::a,y::b,ha,hb,h=>by
    obtain⟨a1,a2⟩:=List.pairwise_cons.1 ha
    obtain⟨b1,b2⟩:=List.pairwise_cons.1 hb
    have hxy:x=y:=by
      rcases List.mem_cons.1 ((h x).1 (by simp))with e|e
      · exact e
      rcases List.mem_cons.1 ((h y).2 (by simp))with e'|e'
      · exact e'.symm
      have:=htr _ _ _ (b1 x e) (a1 y e')
      rw [hir]at this
      cases this
    subst hxy
    congr 1
    refine Tryz.strict_unique lt hir htr a b a2 b2 fun z=>⟨fun hz=> ?_,fun hz=> ?_⟩
    · rcases List.mem_cons.1 ((h z).1 (by simp [hz]))with e|e
      · subst e;have:=a1 z hz;rw [hir]at this;cases this
      · exact e
    · rcases List.mem_cons.1 ((h z).2 (by simp [hz]))with e|e
      · subst e;have:=b1 z hz;rw [hir]at this;cases this
      · exact e
theorem Tryz.compact_ord (xs ys:List zD) (hp:ys.Perm xs) (hs:ys.Pairwise (fun x y=>Tryz.ltF y x=false)):compact ys=Amx.ordD Tryz.ltF xs:=by
  obtain⟨s1,s2,s3⟩:=Tryz.ltF_swo
  have hle:∀i j,i≤j→j<ys.length→Tryz.ltF ys.toArray[j]! ys.toArray[i]! =false:=by
    intro i j hij hj
    rcases Nat.lt_or_eq_of_le hij with h|rfl
    · have:=List.pairwise_iff_getElem.1 hs i j (by omega) hj h
      rw [getElem!_pos ys.toArray j (by simpa using hj),getElem!_pos ys.toArray i (by simp;omega)]
      simpa using this
    · exact s1 _
  refine Tryz.strict_unique Tryz.ltF s1 s2 _ _ ?_ (Tryz.sorted_ordD _ s2 Tryz.ltF_eq xs) fun z=> ?_
  · unfold compact compactUpTo
    rw [List.pairwise_map]
    refine List.Pairwise.imp_of_mem (R:=fun i j=>i<j) ?_ (List.Pairwise.filter _ List.pairwise_lt_range)
    intro i j hi hj hij
    rw [List.mem_filter,List.mem_range]at hi hj
    obtain⟨j1,j2⟩:=hj
    have hk:ys.toArray[j]!≠ys.toArray[j-1]!:=by
      have:=j2
      simp only [keeps,decide_eq_true_eq]at this
      rcases this with h|h
      · omega
      · exact h
    have h1:=hle i (j-1) (by omega) (by omega)
    have h2:=hle (j-1) j (by omega) j1
    cases h3:Tryz.ltF ys.toArray[i]! ys.toArray[j]! with
    | true=>rfl
    | false=>
      have h4:=s3 _ _ _ h1 h3
      exact absurd (Tryz.ltF_eq _ _ h2 h4) hk
  · rw [Tryz.mem_ordD _ Tryz.ltF_eq,←hp.mem_iff]
    unfold compact compactUpTo
    rw [List.mem_map]
    constructor
    · rintro ⟨i,hi,rfl⟩
      rw [List.mem_filter,List.mem_range]at hi
      rw [getElem!_pos ys.toArray i (by simpa using hi.1)]
      simp
    · intro hz
      obtain⟨i,hi,rfl⟩:=List.mem_iff_getElem.1 hz
      have key:∀i,i<ys.length→∃a,a∈(List.range ys.length).filter (keeps ys.toArray)∧ys.toArray[a]! =ys.toArray[i]!:=by
        intro i
        induction i with
        | zero=>intro h;exact⟨0,by simp [keeps,h],rfl⟩
        | succ i ih=>
          intro h
          by_cases e:ys.toArray[i+1]! =ys.toArray[i]!
          · obtain⟨a,h1,h2⟩:=ih (by omega)
            exact⟨a,h1,by rw [h2,e]⟩
          · exact⟨i+1,by rw [List.mem_filter,List.mem_range];exact⟨h,keeps_pos (by simpa using e)⟩,rfl⟩
      obtain⟨a,h1,h2⟩:=key i hi
      refine⟨a,h1,?_⟩
      rw [h2,getElem!_pos ys.toArray i (by simpa using hi)]
      simp
end Go.Proofs
namespace Go.Proofs
open Go.RowKit Go.Maps Go.Sort Go.Shelf Go.Lib
open YtbmfjmakahmclaaGreatDoor.M (zD DataType)
set_option maxRecDepth 100000
theorem Tryz.flat_get:∀(ds:List zD) (t:Nat),(Tryz.flat ds)[t]?=(ds[t/5]?).bind fun x=>(Tryz.fcells x)[t%5]?:=by
  intro ds
  induction ds with
  | nil=>intro t;rfl
  | cons x ds ih=>
    intro t
    show(Tryz.fcells x++Tryz.flat ds)[t]?=_
    by_cases ht:t<5
    · rw [List.getElem?_append_left (by exact ht),show t/5=0 by omega,show t%5=t by omega]
      rfl
    · rw [List.getElem?_append_right (by show 5≤t;omega)]
      show(Tryz.flat ds)[t-5]?=_
      rw [ih,show t/5=(t-5)/5+1 by omega,show t%5=(t-5)%5 by omega]
      rfl
theorem Tryz.flatF (ds:List zD):(flatK Tryz.fcells 5 ds.toArray).toList=Tryz.flat ds:=by
  apply List.ext_getElem?
  intro t
  rw [Tryz.flat_get]
  by_cases ht:t<ds.length*5
  · have h1:t<(flatK Tryz.fcells 5 ds.toArray).size:=by rw [size_flatK];simpa using ht
    have hd:t/5<ds.length:=by omega
    have h2:=get_flatK Tryz.fcells 5 ds.toArray t (by simpa using ht)
    rw [Array.getElem?_toList,Array.getElem?_eq_getElem h1,List.getElem?_eq_getElem hd,Option.bind_some]
    rw [getElem!_pos (flatK Tryz.fcells 5 ds.toArray) t h1]at h2
    rw [h2]
    have h3:ds.toArray[t/5]! =ds[t/5]:=by rw [getElem!_pos ds.toArray (t/5) (by simpa using hd)];simp
    rw [h3]
    have h4:t%5<(Tryz.fcells ds[t/5]).length:=by show t%5<5;omega
    rw [List.getElem?_eq_getElem h4,getElem!_pos (Tryz.fcells ds[t/5]) (t%5) h4]
  · rw [Array.getElem?_toList,Array.getElem?_eq_none (by rw [size_flatK];simp;omega),List.getElem?_eq_none (by omega)]
    rfl
set_option maxHeartbeats 1000000 in
theorem Tryz.ord_ordered (a:Option Addr) (cap:Nat) (xs:List zD) (hok:∀x∈xs,Tryz.okF x=true) (w:World)
    (hsmall:xs.length*40≤70368744177664) (hcap:xs.length≤cap) (hL:Tryz.FactsAt w.heap.size w a xs):
    Calls Tryz.prog 135 #[.slice a xs.length cap] w fun e W'=>∃v,e= .returned v∧
      W'.ownsRow w.heap.size 49 5 v (Amx.ordD Tryz.ltF xs).length (Tryz.flat (Amx.ordD Tryz.ltF xs))∧Below w.heap.size w W':=by
  have hV:Calls Tryz.prog 209 #[.slice a xs.length cap] w fun e w'=>e= .returned (.func (.func 287) #[] #[.pointer (some ⟨w.heap.size,0,none⟩)])∧w'=w.alloc (.cells #[.slice a xs.length cap] 45):=
    (callsIn_wide (n:=6)).1 (Tryz.ord_values Fence.wide 6 trivial rfl a xs.length cap w)
  have hb0:Below w.heap.size w (w.alloc (.cells #[.slice a xs.length cap] 45)):=(Below.refl _ w).alloc (Nat.le_refl _) _
  have hS:=Tryz.ord_sorted w.heap.size a cap xs hok (w.alloc (.cells #[.slice a xs.length cap] 45)) (by simp) hsmall hcap (by simp) (fun i x hx=>by
    obtain⟨b,o,h0,hb,h1⟩:=(hL.below hb0) i x hx
    exact⟨b,o,h0,by simp;omega,h1⟩)
  have e149:∀args w,(callFunc 209 args).run Tryz.prog w= .ok (.enter 209 args) w:=enters_of Tryz.func209 (by kernel_rfl) rfl
  have e148:∀args w,(callFunc 208 args).run Tryz.prog w= .ok (.enter 208 args) w:=enters_of Tryz.func208 (by kernel_rfl) rfl
  have e147:∀args w,(callFunc 207 args).run Tryz.prog w= .ok (.enter 207 args) w:=enters_of Tryz.func207 (by kernel_rfl) rfl
  go_enter Tryz.func135,Tryz.ntmps135
  go_wp2_with (go_at_fn 209;refine hV.mono ?_;rintro e W ⟨rfl,rfl⟩)
  go_wp2_with (go_at_fn 208;refine hS.mono ?_;rintro e W ⟨v,ys,rfl,hp,hs,hrow,hb⟩)
  have hlen:=hp.length_eq
  have hord:=Tryz.compact_ord xs ys hp hs
  have hb1:=hb0.trans (hb.mono (by simp))
  rcases hrow.2 with⟨rfl,hz⟩|⟨g,cp,cur,rfl,hbase,hgb,r1,r2,r3,r4⟩
  · have hN:=Tryz.ord_compact_nil none 0 W
    have hy:ys=[]:=List.eq_nil_of_length_eq_zero hz
    subst hy
    go_wp2_with (go_at_fn 207;refine hN.mono ?_;rintro e w' ⟨rfl,rfl⟩)
    go_ret
    rw [←hord]
    exact⟨_,rfl,World.ownsRow_nil _ _ _ _,hb1⟩
  · have hgl:g<W.heap.size:=(Array.getElem?_eq_some_iff.1 hgb).1
    have hgw:w.heap.size<g:=by simp at hbase;omega
    have hH:HoldsK Tryz.fcells 5 W g 0 ys.toArray:=by
      intro j hj
      rw [size_flatK]at hj
      have hj':j<ys.length*5:=by simpa using hj
      refine⟨?_,by simp [World.frozen?,hgb]⟩
      have hfl:(flatK Tryz.fcells 5 ys.toArray).toList=Tryz.flat ys:=Tryz.flatF ys
      have h1:(cur.toList.take (ys.length*5))[j]?=(flatK Tryz.fcells 5 ys.toArray).toList[j]?:=by rw [r4,hfl]
      rw [List.getElem?_take_of_lt hj',Array.getElem?_toList,Array.getElem?_toList]at h1
      simp only [World.cell?,hgb,Nat.zero_add]
      simp only [Option.isSome_none,Bool.false_eq_true,if_false]
      rw [h1,Array.getElem?_eq_getElem (by rw [size_flatK];exact hj),getElem!_pos _ _ (by rw [size_flatK];exact hj)]
      rfl
    have hC:=Tryz.ord_compact ys (by omega) g cp r1 W hH
    go_wp2_with (go_at_fn 207;refine hC.mono ?_;rintro e w' ⟨rfl,q,F,hF,rfl,hv⟩)
    go_ret
    have hcl:(compact ys).length≤ys.length:=by
      unfold compact compactUpTo
      rw [List.length_map]
      exact Nat.le_trans (List.length_filter_le _ _) (by simp)
    have hcl5:=Nat.mul_le_mul_right 5 hcl
    have hcp5:=Nat.mul_le_mul_right 5 r1
    rw [←hord]
    have hkey:(putRow id (Sort.ahead W q) g 0 F).heap[g]?=some (.cells (putCells id 0 F cur) 49 (0,0)):=by
      simp [putRow,mapBlock,Sort.ahead,Array.getElem?_modify,hgb,onCells]
    refine⟨_,rfl,⟨?_,.inr ⟨g,cp,_,rfl,by omega,hkey,Nat.le_trans hcl r1,r2,by simp [putCells,r3],?_⟩⟩,hb1.trans ⟨rfl,rfl,rfl,?_,fun k hk=> ?_⟩⟩
    · rw [Tryz.flat_len]
    · have hl5:Tryz.flat (compact ys)=(flatK Tryz.fcells 5 (compact ys).toArray).toList:=(Tryz.flatF _).symm
      rw [hl5]
      apply List.ext_getElem?
      intro j
      by_cases hj:j<(compact ys).length*5
      · rw [List.getElem?_take_of_lt hj,Array.getElem?_toList,Array.getElem?_toList]
        have hjc:j<cur.size:=by omega
        have hjF:j<F.size:=by omega
        have hjd:j<(flatK Tryz.fcells 5 (compact ys).toArray).size:=by rw [size_flatK];simpa using hj
        have:=hv j hj
        rw [getElem!_pos (flatK Tryz.fcells 5 (compact ys).toArray) j hjd,getElem!_pos F j hjF]at this
        rw [Array.getElem?_eq_getElem hjd,←this]
        simp [putCells,hjc,hjF]
      · rw [List.getElem?_take_eq_none (by omega),List.getElem?_eq_none (by simp [size_flatK];omega)]
    · simp [putRow,mapBlock,Sort.ahead]
    · have:g≠k:=by omega
      simp [putRow,mapBlock,Sort.ahead,Array.getElem?_modify,this]
end Go.Proofs
namespace Go.Proofs.YtbmfjmakahmclaaGreatDoor.M
open Go Go.Amx Go.RowKit
set_option maxRecDepth 100000
theorem z4v:zif (zpo [] [] [] [] [] [] [] []) 135 {params:=[.mov Ty.zD],results:=[(Ty.sl Ty.zD)],outs:=[],fresh:=[0],fn:=app U [(Ty.sl Ty.zD)] (R:=PT U [(Ty.sl Ty.zD)]) (zpy Proofs.Tryz.ltF Proofs.Tryz.okF)}:=by
  refine⟨⟨_,Proofs.Tryz.func135,rfl,by kernel_rfl⟩,fun ds y hy E0 h0 ha μ H w us hA hm hG=> ?_⟩
  obtain⟨xs,rfl,hx⟩:=zyr hy
  obtain⟨xs,rfl⟩:∃l:List zD,l=xs:=⟨xs,rfl⟩
  have hx:zpy Proofs.Tryz.ltF Proofs.Tryz.okF xs=some y:=hx
  unfold zpy at hx
  cases hb:(xs.all Proofs.Tryz.okF&&Nat.ble (xs.length*40) zae)with
  | false=>rw [hb]at hx;cases hx
  | true=>
    rw [hb]at hx
    have hy2:y=ordD Proofs.Tryz.ltF xs:=by cases hx;rfl
    rw [Bool.and_eq_true,List.all_eq_true]at hb
    obtain⟨hok,hroom⟩:=hb
    have hroom:xs.length*40≤70368744177664:=Nat.le_of_ble_eq_true hroom
    have hE:some ([.own 6000000 0 .full],[(6000000,.arr 0 Ty.zD xs)])=some (E0,h0):=ha
    cases hE
    cases hA with
    | cons h1 h2=>
      cases h2
      rename_i v
      have key:∃a cap,v= .slice a xs.length cap∧xs.length≤cap∧Proofs.Tryz.FactsAt w.heap.size w a xs:=by
        cases h1 with
        | own hl hbx hv hp hh=>
          rename_i l
          obtain⟨ob,g1,g2⟩:=hm.obj _ _ hl
          cases g1
          obtain⟨q1,q2,q3,q4,q5⟩:=g2
          obtain⟨f1,f2⟩:=hh q2.symm
          cases hat:l.at_ with
          | none=>
            simp only [hat]at f2 q5
            obtain⟨rfl,_⟩:=f2
            obtain⟨rfl,_⟩:=q5
            exact⟨none,0,rfl,Nat.le_refl _,fun i x hx=>by simp at hx⟩
          | some q=>
            obtain⟨b,o⟩:=q
            simp only [hat]at f2 q5
            obtain⟨a,cap,hv2,hc1,hc2,hc3⟩:=f2
            obtain⟨q6,q7,q8⟩:=q5
            have e:zai.full.len l.len=xs.length:=q3
            rw [e]at hv2 hc1
            refine⟨a,cap,hv2,hc1,fun i x hx=> ?_⟩
            have hi:i<xs.length:=(List.getElem?_eq_some_iff.1 hx).1
            have q6:xs.length*5≤l.size:=q6
            have ha:=hc2 (by omega)
            have ho:o+zai.full.off*l.sz=o:=by show o+0*l.sz=o;omega
            rw [ho]at ha
            have hin:=hm.inside _ l b o hl ⟨o,hat,Nat.le_refl _,by omega⟩
            have get:∀(j:Nat) (u:Go.Value),(zuy x)[j]?=some (.sc u)→w.cell? ⟨b,o+(i*5+j),none⟩=some u:=fun j u hj=>by
              obtain⟨v',h1,h2⟩:=q8 i x hx j (.sc u) hj
              cases h2
              exact h1
            exact⟨b,o,ha,hin,by simpa using get 0 _ rfl,by simpa [Nat.add_assoc]using get 1 _ rfl,by simpa [Nat.add_assoc]using get 2 _ rfl,by simpa [Nat.add_assoc]using get 3 _ rfl,by simpa [Nat.add_assoc]using get 4 _ rfl⟩
      obtain⟨a,cap,rfl,hcap,hF⟩:=key
      refine(Proofs.Tryz.ord_ordered a cap xs hok w hroom hcap hF).mono ?_
      rintro e w' ⟨v,rfl,hrow,hbel⟩
      show z3l _ _ _ _ _ _ _ _ _
      subst hy2
      generalize hys:ordD Proofs.Tryz.ltF xs=ys at hrow⊢
      have old:∀b o v,H b o=some v→b<w.heap.size:=fun b o v h=>by
        have:=hm.frz _ _ _ h
        rcases Nat.lt_or_ge b w.heap.size with h'|h'
        · exact h'
        · simp [World.cell?,Array.getElem?_eq_none h']at this
      have fin:∀(l:Amx.Loc),l.box=false→zcl En (zc5 [(9000000,l)]) H w' l (.arr 0 Ty.zD ys)→zol l .full v→(∃a n cap,v= .slice a n cap)→(∀b o,l.holds b o→w.heap.size≤b∧b<w'.heap.size)→
          z3l (zpo [] [] [] [] [] [] [] []) {params:=[.mov Ty.zD],results:=[(Ty.sl Ty.zD)],outs:=[],fresh:=[0],fn:=app U [(Ty.sl Ty.zD)] (R:=PT U [(Ty.sl Ty.zD)]) (zpy Proofs.Tryz.ltF Proofs.Tryz.okF)} [0] μ H w ys v w':=by
        intro l hlb hob hat hsl hpl
        have zc:∀k l',zc5 [(9000000,l)] k=some l'→k=9000000∧l'=l:=fun k l' h=>by
          simp only [zc5]at h
          cases hk:Nat.beq k 9000000 with
          | true=>rw [hk]at h;cases h;exact⟨Nat.eq_of_beq_eq_true hk,rfl⟩
          | false=>rw [hk]at h;cases h
        refine⟨.own 9000000 0 .full,[(9000000,.arr 0 Ty.zD ys)],[],[(9000000,l)],H,by kernel_rfl,rfl,by simp,.cons ⟨rfl,hob⟩ .nil,⟨?_,?_,?_,?_⟩,?_,Fz.le_refl H,?_,?_,fun b o h=> .inl h,?_⟩
        · intro b o v hv
          have:=hm.frz _ _ _ hv
          rw [hbel.cell (p:=⟨b,o,none⟩) (old _ _ _ hv)]
          exact this
        · intro k k' l1 l2 b o h1 h2 _ _
          rw [(zc _ _ h1).1,(zc _ _ h2).1]
        · intro k l1 b o h1 h2
          obtain⟨_,rfl⟩:=zc _ _ h1
          cases hH:H b o with
          | none=>rfl
          | some v=>have:=old _ _ _ hH;have:=(hpl b o h2).1;omega
        · intro k l1 b o h1 h2
          obtain⟨_,rfl⟩:=zc _ _ h1
          exact(hpl b o h2).2
        · exact .own (l:=l) rfl hlb (Nat.zero_le _) hsl fun _=>hat
        · intro k l1 h1 h2
          simp at h1
          obtain⟨_,rfl⟩:=h1
          rw [hlb]at h2
          cases h2
        · exact⟨hbel.os,hbel.tape,hbel.output,hbel.size,fun b hb=> .inl (hbel.block b hb)⟩
        · intro k l1 b o h1 h2
          simp at h1
          obtain⟨_,rfl⟩:=h1
          exact .inl (hpl b o h2).1
      rcases hrow.2 with⟨rfl,hz⟩|⟨g,cp,cur,rfl,hbase,hgb,r1,r2,r3,r4⟩
      · have hy0:ys=[]:=List.eq_nil_of_length_eq_zero hz
        subst hy0
        refine fin ⟨false,none,0,0,5,0⟩ rfl ⟨rfl,rfl,rfl,rfl,rfl,rfl⟩ ⟨Nat.le_refl _,rfl,rfl⟩ ⟨_,_,_,rfl⟩ ?_
        rintro b o ⟨_,h,_⟩
        cases h
      · have hgl:g<w'.heap.size:=(Array.getElem?_eq_some_iff.1 hgb).1
        have hcp:ys.length*5≤cp*5:=Nat.mul_le_mul_right 5 r1
        refine fin ⟨false,some (g,0),0,ys.length,5,cp*5⟩ rfl ⟨rfl,rfl,rfl,rfl,hcp,fun j hj=> ?_,fun i x hx j c hc=> ?_⟩ ⟨by show 0+ys.length≤ys.length;omega,some ⟨g,0,none⟩,cp,rfl,r1,fun _=>rfl,by show(0+cp)*5≤cp*5;omega⟩ ⟨_,_,_,rfl⟩ ?_
        · have hj':j<cur.size:=by rw [r3];exact hj
          simp [World.cell?,World.frozen?,hgb,hj']
        · have hi:i<ys.length:=(List.getElem?_eq_some_iff.1 hx).1
          have hj5:j<5:=(List.getElem?_eq_some_iff.1 hc).1
          have hlt:i*5+j<ys.length*5:=by omega
          have hc1:=hrow.cellAt (i*5+j) hlt
          rw [Proofs.Tryz.flat_get,show(i*5+j)/5=i by omega,show(i*5+j)%5=j by omega,hx]at hc1
          have hc:(zuy x)[j]?=some c:=hc
          have hcc:(zuy x)[j]?=((Proofs.Tryz.fcells x)[j]?).map .sc:=by
            match j,hj5 with
            | 0,_=>rfl
            | 1,_=>rfl
            | 2,_=>rfl
            | 3,_=>rfl
            | 4,_=>rfl
          have hj5':j<(Proofs.Tryz.fcells x).length:=hj5
          rw [hcc,List.getElem?_eq_getElem hj5']at hc
          have hc:AV.sc ((Proofs.Tryz.fcells x)[j])=c:=by simpa using hc
          subst hc
          refine⟨(Proofs.Tryz.fcells x)[j],?_,.sc _⟩
          have hc1:w'.cell? ⟨g,i*5+j,none⟩=(Proofs.Tryz.fcells x)[j]?:=hc1
          rw [List.getElem?_eq_getElem hj5']at hc1
          show w'.cell? ⟨g,0+(i*5+j),none⟩=_
          rw [Nat.zero_add]
          exact hc1
        · rintro b o ⟨o0,h,_⟩
          cases h
          exact⟨hbase,hgl⟩
end Go.Proofs.YtbmfjmakahmclaaGreatDoor.M
