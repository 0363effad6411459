/- The value-level logic: local maps whose keys are integers, strings, bools or structs of such: how they are made, read and written. No conditions. The ..; no conditions. -/
import Derived.Test.YtjpahkpfkohfkaaGreatDoorW5
import Derived.MapKept
import Derived.Test.YtjpahkpfkohfkaaGreatDoorW1
import Derived.Laws.MakeOwn
import Derived.Laws.Build
import Derived.Below
import Derived.Laws.IdiomStrings
import Derived.Laws.AppendOwn
import Derived.KernelRfl
set_option linter.unusedVariables false
set_option linter.unusedSimpArgs false
namespace Go.EV
open Go
def A0(agg:Bool)(l:List V):V:=match agg with
 | true=>.agg l
 | false=>l.headD .undef
def T2(P:Program)(t:TypeId)(xs ys:List V):Option Bool:=
 match P.underlying t with
 | some (.int _)=>match xs,ys with
  | [.int k a],[.int k' b]=>if k=k' then some (a==b) else none
  | _,_=>none
 | some .string=>match xs,ys with
  | [.str a],[.str b]=>some (decide (a=b))
  | _,_=>none
 | some (.struct _)=>eqDeepV P t xs ys
 | some (.array _ _)=>eqArrV P t xs ys
 | _=>none
theorem keyEq_int{P:Program}{t:TypeId}{k:IntKind}(hu:P.underlying t=some (.int k)){xs ys:List V}{q:Bool}(h:T2 P t xs ys=some q):∃k1 a b,xs=[.int k1 a]/\ys=[.int k1 b]/\q=(a==b):=by
 unfold T2 at h
 grind
theorem keyEq_str{P:Program}{t:TypeId}(hu:P.underlying t=some .string){xs ys:List V}{q:Bool}(h:T2 P t xs ys=some q):∃a b,xs=[.str a]/\ys=[.str b]/\q=decide (a=b):=by
 unfold T2 at h
 grind
def H9(P:Program)(t:TypeId):Bool:=match P.underlying t with
 | some (.struct _)=>true
 | some (.array _ _)=>true
 | _=>false
theorem isAggK_kind{P:Program}{t:TypeId}(h:H9 P t=true):(∃fs,P.underlying t=some (.struct fs))\/∃n e,P.underlying t=some (.array n e):=by
 grind [H9]
theorem keyEq_kind{P:Program}{t:TypeId}{xs ys:List V}{q:Bool}(h:T2 P t xs ys=some q):(∃k,P.underlying t=some (.int k))\/P.underlying t=some .string\/H9 P t=true:=by
 unfold T2 at h
 grind [H9]
theorem keyEq_flat{P:Program}{t:TypeId}{xs ys:List V}{q:Bool}(ha:H9 P t=true)(h:T2 P t xs ys=some q):H3 xs ys=some q:=by
 unfold T2 at h
 grind [isAggK_kind,eqDeepV,eqArrV]
theorem run_equal_agg{P:Program}{γ:Gh}{w:World}{bs:ze}{u:zf}{t:TypeId}{xs ys:List V}{r:Bool}(h:eqDeepV P t xs ys=some r)
  {x y:Value} (hx:Rep γ w bs u (.agg xs) x) (hy:Rep γ w bs u (.agg ys) y):(Op.equal t x y).run P w=.ok r w:=by
 unfold eqDeepV at h
 split at h
 ·rename_i fs hu
  split at h
  ·rename_i hc
   simp only[zC,wi] at hc
   obtain⟨⟨hf,hp⟩,hg⟩:=hc
   obtain⟨vx,rfl,lx,cx⟩:=hx.agg_inv
   obtain⟨vy,rfl,ly,cy⟩:=hy.agg_inv
   have hfo:P.fieldsOf t=fs:=by simp[Program.fieldsOf,hu]
   show (Op.equalIn 10000 t (.agg vx.toArray) (.agg vy.toArray)).run P w=.ok r w
   rw[show (10000:Nat)=9999+1 from rfl,run_equalIn_struct w 9999 t _ _ (by rw[hfo];exact hu) hp,hfo]
   refine run_eqDeep (γ:=γ) (bs:=bs) (u:=u) 100 9999 _ _ fs.toList 0 xs ys r (by omega) hf h ?_ ?_
   ·intro i c hc
    obtain⟨hlt,_⟩:=wm.1 hc
    have hv:vx[i]?=some (vx[i]'(by omega)):=(by grind)
    grind
   ·intro i c hc
    obtain⟨hlt,_⟩:=wm.1 hc
    have hv:vy[i]?=some (vy[i]'(by omega)):=(by grind)
    grind
  ·simp at h
 ·simp at h
theorem run_equal_key{P:Program}{γ:Gh}{w:World}{bs:ze}{u:zf}{t:TypeId}{xs ys:List V}{r:Bool}(ha:H9 P t=true)(h:T2 P t xs ys=some r)
  {x y:Value} (hx:Rep γ w bs u (.agg xs) x) (hy:Rep γ w bs u (.agg ys) y):(Op.equal t x y).run P w=.ok r w:=by
 unfold T2 at h
 grind [isAggK_kind,run_equal_agg,run_equal_arr]
theorem run_checkDeep{P:Program}{γ:Gh}{w:World}{bs:ze}{u:zf}(em:Bool) :
  ∀(n e:Nat) (xs:Array Value) (fs:List Field) (j:Nat) (cs:List V),n<=e->M3 P n fs j cs=true->(∀(i:Nat) (c:V),cs[i]?=some c->∃v,xs[j+i]?=some v/\Rep γ w bs u c v)->
   (forIn fs PUnit.unit (λf _ => if f.name ≠ "_" then (do
     let c <-part f.type xs f.offset
     Instr.checkKey em e f.type c
     pure (ForInStep.yield PUnit.unit)) else pure (ForInStep.yield PUnit.unit)):Sem PUnit).run P w=.ok PUnit.unit w
 | 0,_,_,_,_,_,_,hf,_=>by simp[M3] at hf
 | n+1,0,_,_,_,_,hn,_,_=>by omega
 | n+1,e+1,xs,[],j,cs,hn,hf,hx=>by simp
 | n+1,e+1,xs,f :: fs,j,cs,hn,hf,hx=>by
  simp only[M3,zC,beq_iff_eq,bne_iff_ne,ne_eq] at hf
  obtain⟨⟨ho,hname⟩,hk⟩:=hf
  have shift:∀(m:Nat) (i:Nat) (c:V),(cs.drop m)[i]?=some c->∃v,xs[j+m+i]?=some v/\Rep γ w bs u c v:=(by grind)
  have fin:∀(m:Nat) (x:Value),M3 P n fs (j+m) (cs.drop m)=true->(part f.type xs f.offset).run P w=.ok x w->(Instr.checkKey em (e+1) f.type x).run P w=.ok () w->
    (forIn (f :: fs) PUnit.unit (λf _ => if f.name ≠ "_" then (do
     let c <-part f.type xs f.offset
     Instr.checkKey em (e+1) f.type c
     pure (ForInStep.yield PUnit.unit)) else pure (ForInStep.yield PUnit.unit)):Sem PUnit).run P w=.ok PUnit.unit w:=by
   intro m x h1 h2 h3
   have ih:=run_checkDeep em n (e+1) xs fs (j+m) (cs.drop m) (by omega) h1 (shift m)
   simp_all
  have part1:∀{d:TypeDesc} (z:Value),P.underlying f.type=some d->(∀q,d≠.struct q)->(∀p q,d≠.array p q)->xs[j]?=some z->(part f.type xs f.offset).run P w=.ok z w:=by
   intro d z hu h1 h2 hz
   cases d<;>first|exact absurd rfl (h1 _)|exact absurd rfl (h2 _ _)|simp[part,W4 hu,ho,hz]
  split at hk
  ·rename_i gs hu
   split at hk
   rotate_left
   ·simp at hk
   rename_i i hi
   simp only[zC,wi,zG] at hk
   obtain⟨⟨⟨_,hlen⟩,hin⟩,hrest⟩:=hk
   have px:(part f.type xs f.offset).run P w=.ok (.agg (xs.extract j (j+i.size))) w:=by simp[part,W4 hu,sizeOf,typeInfo,hi,ho]
   refine fin i.size _ hrest px ?_
   have inner:=run_checkDeep (γ:=γ) (w:=w) (bs:=bs) (u:=u) em n e (xs.extract j (j+i.size)) gs.toList 0 (cs.take i.size) (by omega) hin (by grind)
   rw[Instr.checkKey]
   simp_all [zM,zE,zQ,Array.forIn_toList,wC]
  ·rename_i ik hu
   split at hk
   rotate_left
   ·simp at hk
   rename_i k a cs
   obtain⟨x,h0,hxr⟩:=hx 0 _ rfl
   have:=hxr.int_inv;subst this
   exact fin 1 _ hk (part1 _ hu (by simp) (by simp) h0) (by simp[Instr.checkKey,zE hu])
  ·rename_i hu
   split at hk
   rotate_left
   ·simp at hk
   obtain⟨x,h0,hxr⟩:=hx 0 _ rfl
   exact fin 1 _ hk (part1 _ hu (by simp) (by simp) h0) (by simp[Instr.checkKey,zE hu])
  ·rename_i hu
   split at hk
   rotate_left
   ·simp at hk
   obtain⟨x,h0,hxr⟩:=hx 0 _ rfl
   exact fin 1 _ hk (part1 _ hu (by simp) (by simp) h0) (by simp[Instr.checkKey,zE hu])
  ·simp at hk
section
variable {P:Program} {γ:Gh} {w:World} {bs:ze} {u:zf}
theorem run_checkKeyV{t:TypeId}{xs:List V}(h:(T2 P t xs xs).isSome=true){v:Value}(hr:Rep γ w bs u (A0 (H9 P t) xs) v)(em:Bool):(Instr.checkKey em 10000 t v).run P w=.ok () w:=by
 obtain⟨q,h⟩:=Option.isSome_iff_exists.1 h
 unfold T2 at h
 split at h
 ·rename_i k hu
  have ha:H9 P t=false:=by simp[H9,hu]
  rw[ha] at hr
  split at h
  ·have:=Rep.int_inv (hr:Rep γ w bs u (.int _ _) v);subst this
   exact(λn=>by simp[Instr.checkKey,zE hu]:∀n,(Instr.checkKey em (n+1) t _).run P w=.ok () w) 9999
  ·simp at h
 ·rename_i hu
  have ha:H9 P t=false:=by simp[H9,hu]
  rw[ha] at hr
  split at h
  ·have:=Rep.str_inv (hr:Rep γ w bs u (.str _) v);subst this
   exact(λn=>by simp[Instr.checkKey,zE hu]:∀n,(Instr.checkKey em (n+1) t _).run P w=.ok () w) 9999
  ·simp at h
 ·rename_i fs hu
  have ha:H9 P t=true:=by simp[H9,hu]
  rw[ha] at hr
  obtain⟨vs,rfl,lx,cx⟩:=(hr:Rep γ w bs u (.agg xs) v).agg_inv
  unfold eqDeepV at h
  rw[hu] at h
  simp only at h
  split at h
  ·rename_i hc
   simp only[zC,wi] at hc
   rw[show (10000:Nat)=9999+1 from rfl,Instr.checkKey]
   simp only[zM,zE hu,zQ]
   rw[<-Array.forIn_toList]
   have key:=run_checkDeep (γ:=γ) (w:=w) (bs:=bs) (u:=u) em 100 9999 vs.toArray fs.toList 0 xs (by omega) hc.1.1 λi c hc=>by
    have hlt:=(wm.1 hc).1
    have hv:vs[i]?=some (vs[i]'(by omega)):=(by grind)
    grind
   simp_all
  ·simp at h
 ·rename_i n e hu
  have ha:H9 P t=true:=by simp[H9,hu]
  rw[ha] at hr
  obtain⟨vs,rfl,lx,cx⟩:=(hr:Rep γ w bs u (.agg xs) v).agg_inv
  unfold eqArrV at h
  rw[hu] at h
  simp only at h
  split at h
  ·rename_i hc
   simp only[zC,wi,zG] at hc
   obtain⟨⟨⟨⟨hn,hf⟩,h1⟩,hi⟩,hg⟩:=hc
   obtain⟨i,hi⟩:=Option.isSome_iff_exists.1 hi
   rw[show (10000:Nat)=9998+1+1 from rfl,Instr.checkKey]
   simp only[zM,zE hu,zQ]
   simp only[Std.Legacy.Range.forIn_eq_forIn_range',Std.Legacy.Range.size,Nat.sub_zero,Nat.add_one_sub_one,Nat.div_one]
   have key:=run_checkItems (P:=P) (w:=w) em 9998 e vs.toArray hi h1 xs 0 hf (by simp[lx])
   grind [Result.andThen_ok,Sem.run_pure]
  ·simp at h
 ·simp at h
def firstAt:List Bool->List MapEntry->Nat->Option (Nat×Value)
 | q :: qs,e :: es,i=>match q with
  | true=>some (i,e.val)
  | false=>firstAt qs es (i+1)
 | _,_,_=>none
theorem firstAt_idx{α:Type}(p:α->Bool):∀(l:List α) (es:List MapEntry) (i:Nat),es.length=l.length->
  firstAt (l.map p) es i=match l.findIdx? p with|some j=>(es[j]?).map λe=>(i+j,e.val)|none=>none
 | [],[],i,_=>rfl
 | [],e :: es,i,h=>by simp at h
 | x :: l,[],i,h=>by simp at h
 | x :: l,e :: es,i,h=>by
  simp only[zW,firstAt,List.findIdx?_cons]
  cases hp:p x with
  | true=>simp
  | false=>
   simp only[Bool.false_eq_true,if_false]
   rw[firstAt_idx p l es (i+1) (by simpa using h)]
   grind
theorem run_findKeyV{t:TypeId}{xs:List V}{kv:Value}(hk:Rep γ w bs u (A0 (H9 P t) xs) kv)(es:List MapEntry)(qs:List Bool)
  (hl:qs.length=es.length) (h:∀(j:Nat) (e:MapEntry),es[j]?=some e->∃q ys,qs[j]?=some q/\T2 P t xs ys=some q/\Rep γ w bs u (A0 (H9 P t) ys) e.key) (hs:(T2 P t xs xs).isSome=true) :
  (Instr.findKey t kv es).run P w=.ok (firstAt qs es 0) w:=by
 obtain⟨q0,hs⟩:=Option.isSome_iff_exists.1 hs
 have now:∀d,P.underlying t=some d->(∀(j:Nat) (e:MapEntry),es[j]?=some e->∃q,qs[j]?=some q/\Instr.sameNow d kv e.key=some q)->(Instr.findKey t kv es).run P w=.ok (firstAt qs es 0) w:=λd hu hq=>by
  refine MapKept.run_findKey hu ?_
  have gen:∀(es:List MapEntry) (qs:List Bool) (i:Nat),qs.length=es.length->(∀(j:Nat) (e:MapEntry),es[j]?=some e->∃q,qs[j]?=some q/\Instr.sameNow d kv e.key=some q)->Instr.findNow d kv es i=some (firstAt qs es i):=by
   intro es
   induction es with
   | nil=>intro qs i hl _;cases qs with|nil=>rfl|cons=>simp at hl
   | cons e es ih=>
    intro qs i hl hq
    cases qs with
    | nil=>simp at hl
    | cons q qs=>
     obtain⟨q',h1,h2⟩:=hq 0 e rfl
     simp only[wO,zp] at h1
     subst h1
     simp only[Instr.findNow,h2,firstAt]
     cases q with
     | true=>rfl
     | false=>exact ih qs (i+1) (by simpa using hl) λj e' he=>by simpa using hq (j+1) e' (by simpa using he)
  grind
 rcases keyEq_kind hs with⟨k,hu⟩|hu|ha
 ·have ha:H9 P t=false:=by simp[H9,hu]
  rw[ha] at hk
  obtain⟨k1,a,_,rfl,_⟩:=keyEq_int hu hs
  have:=Rep.int_inv (hk:Rep γ w bs u (.int k1 a) kv);subst this
  refine now _ hu λj e he=>?_
  obtain⟨q,ys,h1,h2,h3⟩:=h j e he
  refine⟨q,h1,?_⟩
  obtain⟨k2,a2,b2,e1,rfl,rfl⟩:=keyEq_int hu h2
  simp only[List.cons.injEq,V.int.injEq,and_true] at e1
  obtain⟨rfl,rfl⟩:=e1
  rw[ha] at h3
  rw[Rep.int_inv (h3:Rep γ w bs u (.int k1 b2) e.key)]
  simp[Instr.sameNow]
 ·have ha:H9 P t=false:=by simp[H9,hu]
  rw[ha] at hk
  obtain⟨a,_,rfl,_⟩:=keyEq_str hu hs
  have:=Rep.str_inv (hk:Rep γ w bs u (.str a) kv);subst this
  refine now _ hu λj e he=>?_
  obtain⟨q,ys,h1,h2,h3⟩:=h j e he
  refine⟨q,h1,?_⟩
  obtain⟨a2,b2,e1,rfl,rfl⟩:=keyEq_str hu h2
  simp only[List.cons.injEq,V.str.injEq,and_true] at e1
  subst e1
  rw[ha] at h3
  rw[Rep.str_inv (h3:Rep γ w bs u (.str b2) e.key)]
  simp only[Instr.sameNow,zp]
  exact Bool.eq_iff_iff.2 (by rw[MapKept.bytes_beq];simp)
 ·rw[ha] at hk
  have e1:(Instr.findKey t kv es).run P w=(Instr.findAsking t kv es).run P w:=by
   rcases isAggK_kind ha with⟨fs,hu⟩|⟨n,e,hu⟩
   ·cases es with
    | nil=>simp[Instr.findKey,zE hu,Instr.findNow,Instr.findAsking]
    | cons e es=>simp[Instr.findKey,zE hu,Instr.findNow,Instr.sameNow]
   ·cases es with
    | nil=>simp[Instr.findKey,zE hu,Instr.findNow,Instr.findAsking]
    | cons e es=>simp[Instr.findKey,zE hu,Instr.findNow,Instr.sameNow]
  rw[e1]
  have gen:∀(es:List MapEntry) (qs:List Bool) (i:Nat),qs.length=es.length->(∀(j:Nat) (e:MapEntry),es[j]?=some e->∃q,qs[j]?=some q/\(Op.equal t kv e.key).run P w=.ok q w)->(Instr.findAsking t kv es i).run P w=.ok (firstAt qs es i) w:=by
   intro es
   induction es with
   | nil=>intro qs i hl _;cases qs with|nil=>rfl|cons=>simp at hl
   | cons e es ih=>
    intro qs i hl hq
    cases qs with
    | nil=>simp at hl
    | cons q qs=>
     obtain⟨q',h1,h2⟩:=hq 0 e rfl
     simp only[wO,zp] at h1
     subst h1
     simp only[Instr.findAsking,zM,h2,zQ,firstAt]
     cases q with
     | true=>simp
     | false=>simpa using ih qs (i+1) (by simpa using hl) λj e' he=>by simpa using hq (j+1) e' (by simpa using he)
  refine gen es qs 0 hl λj e he=>?_
  obtain⟨q,ys,h1,h2,h3⟩:=h j e he
  refine⟨q,h1,?_⟩
  rw[ha] at h3
  exact run_equal_key ha h2 hk h3
end
theorem Sim.newMap{G:zd}{γ:Gh}{st:St}{tmps:Array Value}{w:World}(h:Sim G γ st tmps w){d z:Nat}(hM:J8<=z)(hu:st.u d=false) :
  Sim G (γ.add d w.heap.size) (st.setB d ⟨z,true,[]⟩) tmps (w.alloc (.map #[] 0))/\Grow γ w (γ.add d w.heap.size) (w.alloc (.map #[] 0))/\
   L7 γ st.b st.u (γ.add d w.heap.size) (st.setB d ⟨z,true,[]⟩).b (st.setB d ⟨z,true,[]⟩).u:=by
 have hh:(w.alloc (.map #[] 0)).heap=w.heap.push (.map #[] 0):=rfl
 have g:=Grow.push (γ:=γ) (w1:=w.alloc (.map #[] 0)) hh ⟨rfl,rfl,rfl⟩ d
 have bl:L7 γ st.b st.u (γ.add d w.heap.size) (st.setB d ⟨z,true,[]⟩).b (st.setB d ⟨z,true,[]⟩).u:=h.bsLe_new hu λb hb=>by simp only[Gh.add];rw[if_neg hb]
 refine⟨⟨h.n,λi=>(h.t i).mono g bl,λb k hk=>?_,λb k hk=>?_,h.g.grow g,λB x hx=>?_⟩,g,bl⟩
 ·simp only[St.setB] at hk
  by_cases hb:b=d
  ·subst hb
   rw[if_pos rfl] at hk
   simp only[zp] at hk;subst hk
   refine .inr (.inl ⟨hM,w.heap.size,#[],0,by simp[Gh.add],by simp[Gh.add],by rw[hh];simp,rfl,λr hr=>by simp at hr,⟨λe he=>by simp at he,by simp,λe he=>by simp at he⟩,λi c hc=>by simp at hc⟩)
  ·rw[if_neg hb] at hk
   have hlt:∀B x,γ.own B=some x->B < w.heap.size/\B≠w.heap.size:=λB x hx=>by have:=h.o B x hx;omega
   rcases h.b b k hk with⟨v1,v2⟩|hm|⟨hM2,B,o,cs',e',h1,h2,h3,h4,h5,h6,h7,h8⟩
   ·exact .inl ⟨by simp_all [if_neg,Gh.add],v2⟩
   ·exact .inr (.inl (hm.same (by simp only[Gh.add];rw[if_neg hb]) (λB _ hB=>⟨by simp_all [if_neg,Gh.add],(by grind)⟩) λc v hr=>hr.mono g bl))
   ·have hne:=(hlt B _ h2).2
    refine .inr (.inr ⟨hM2,B,o,cs',e',by simp_all [if_neg,Gh.add],by simp_all [if_neg,Gh.add],h3.of_eq (by grind),h4,h5,λi c hc=>?_,
     by simp_all [if_neg,Gh.add],by simp_all [if_neg,Gh.add]⟩)
    obtain⟨v,a1,a2,a3,a4⟩:=h6 i c hc
    refine⟨v,a1,a2.mono g bl,a3,?_⟩
    replace a4:=a4.grow g (λB hB=>by
     simp_all [if_neg,zD,Gh.add])
    unfold D8 at a4 ⊢
    split at a4
    ·rcases a4 with a4|a4
     ·exact .inl a4
     simp_all [if_neg,Gh.add]
    ·trivial
 ·simp only[St.setB] at hk ⊢
  by_cases hb:b=d
  ·subst hb;simp
  ·rw[if_neg hb] at hk;rw[if_neg hb];exact h.u b k hk
 ·simp only[Gh.add] at hx
  rw[hh];simp only[Array.size_push]
  split at hx
  ·omega
  ·have:=h.o B x hx;omega
theorem Grow.putMap{γ:Gh}{w:World}{B clock clock':Nat}{es es':Array MapEntry}{x:K0}(hheap:w.heap[B]?=some (.map es clock))(hown:γ.own B=some x):Grow γ w γ (w.putObj B (.map es' clock')) where
 os:=rfl
 tape:=rfl
 output:=rfl
 size:=by simp
 imm:=(by grind [cellAt_block,World.putObj_heap_other,cellAt,World.cell?])
 lim:=λ_ _=>zD _
 free:=λB' _ ho=>⟨(by grind [World.putObj_heap_other]),ho,rfl⟩
 room:=λB' cs e fz hc=>⟨cs,fz,by
  grind [World.putObj_heap_other],rfl,.inl rfl⟩
theorem Sim.putMap{G:zd}{γ:Gh}{st:St}{tmps:Array Value}{w:World}(h:Sim G γ st tmps w){b:Nat}{k:Blk}(hk:st.b b=some k){B clock clock':Nat}{es es':Array MapEntry}{rows':List (List V)}
  (hM:J8<=k.size) (hloc:γ.loc b=some (B,0)) (hown:γ.own B=some (.blk b)) (hheap:w.heap[B]?=some (.map es clock)) (hn:es'.size=rows'.length)
  (hz:∀r,r∈rows'->r.length=mwd k.size) (hes:EsOk k.size es'/\Born es' clock')
  (hc:∀(i:Nat) (c:V),rows'.flatten[i]?=some c->∃v,(es'.toList.flatMap (G4 k.size))[i]?=some v/\Rep γ w st.b st.u c v/\v.oneCell'=true) :
  Sim G γ (st.setB b ⟨k.size,k.excl,rows'⟩) tmps (w.putObj B (.map es' clock'))/\Grow γ w γ (w.putObj B (.map es' clock'))/\L7 γ st.b st.u γ (st.setB b ⟨k.size,k.excl,rows'⟩).b (st.setB b ⟨k.size,k.excl,rows'⟩).u:=by
 have g:Grow γ w γ (w.putObj B (.map es' clock')):=Grow.putMap hheap hown
 have hB:B < w.heap.size:=h.o B _ hown
 have bl:L7 γ st.b st.u γ (st.setB b ⟨k.size,k.excl,rows'⟩).b (st.setB b ⟨k.size,k.excl,rows'⟩).u:=by
  refine⟨(by grind [St.setB]),λb' hb hn=>?_,λb' k' hk'=>?_⟩
  ·have:b'≠b:=(by grind)
   simp_all [if_neg,St.setB]
  ·by_cases hb:b'=b
   ·subst hb
    rw[hk] at hk';simp only[zp] at hk';subst hk'
    exact⟨by simp[St.setB],.inr ⟨⟨k.size,k.excl,rows'⟩,by simp[St.setB],rfl,λhs=>absurd hs (Nat.not_lt_of_le hM),rfl⟩⟩
   ·exact⟨by simp only[St.setB];rw[if_neg hb];exact h.u b' k' hk',.inr ⟨k',by simp_all [if_neg,St.setB],rfl,λ_=>rfl,rfl⟩⟩
 refine⟨⟨h.n,λi=>(h.t i).mono g bl,λb' k' hk'=>?_,λb' k' hk'=>?_,h.g.grow g,λB' x hx=>by simpa using h.o B' x hx⟩,g,bl⟩
 ·simp only[St.setB] at hk'
  by_cases hb:b'=b
  ·subst hb
   rw[if_pos rfl] at hk'
   simp only[zp] at hk';subst hk'
   refine .inr (.inl ⟨hM,B,es',clock',hloc,hown,World.putObj_heap_same hB,hn,hz,hes,λi c hi=>?_⟩)
   obtain⟨v,h1,h2,h3⟩:=hc i c hi
   exact⟨v,h1,h2.mono g bl,h3⟩
  ·rw[if_neg hb] at hk'
   have hne:∀B2,γ.own B2=some (.blk b')->B2≠B:=(by grind)
   rcases h.b b' k' hk' with⟨v1,v2⟩|hm|⟨hM2,B2,o2,cs2,e2,h1,h2,h3,h4,h5,h6,h7,h8⟩
   ·exact .inl ⟨v1,v2⟩
   ·exact .inr (.inl (hm.same rfl (by grind [World.putObj_heap_other]) λc v hr=>hr.mono g bl))
   refine .inr (.inr ⟨hM2,B2,o2,cs2,e2,h1,h2,h3.of_eq (World.putObj_heap_other (hne B2 h2)),h4,h5,λi c hc=>?_,h7,h8⟩)
   obtain⟨v,a1,a2,a3,a4⟩:=h6 i c hc
   exact⟨v,a1,a2.mono g bl,a3,a4.grow g⟩
 ·simp only[St.setB] at hk' ⊢
  by_cases hb:b'=b
  ·subst hb;simp
  ·rw[if_neg hb] at hk';rw[if_neg hb];exact h.u b' k' hk'
theorem mcells_len{z:Nat}{es:Array MapEntry}(h:EsOk z es){e:MapEntry}(he:e∈es):(G4 z e).length=mwd z:=by
 obtain⟨h1,_,h3,_⟩:=h e he
 simp[G4,h1,h3,mwd]
theorem flatMap_get{z:Nat}{es:Array MapEntry}(h:EsOk z es)(i j:Nat)(hj:j < mwd z):(es.toList.flatMap (G4 z))[i * mwd z+j]?=(es[i]?).bind λe=>(G4 z e)[j]?:=by
 rw[List.flatMap_def]
 have gen:∀(rows:List (List Value)),(∀r,r∈rows->r.length=mwd z)->∀i,rows.flatten[i * mwd z+j]?=(rows[i]?).bind (·[j]?):=by
  intro rows
  induction rows with
  | nil=>grind
  | cons r rows ih=>
   intro hr i
   have hl:=hr r (by simp)
   cases i with
   | zero=>grind
   | succ i=>
    grind
 rw[gen _ (λr hr=>by obtain⟨e,he,rfl⟩:=zF.1 hr;grind [mcells_len])]
 grind
theorem MapAt.row{γ:Gh}{w:World}{bs:ze}{u:zf}{z:Nat}{es:Array MapEntry}{rows:List (List V)}(hlen:es.size=rows.length)(hz:∀r,r∈rows->r.length=mwd z)(hes:EsOk z es)
  (hc:∀(i:Nat) (c:V),rows.flatten[i]?=some c->∃v,(es.toList.flatMap (G4 z))[i]?=some v/\Rep γ w bs u c v/\v.oneCell'=true) {i:Nat} {r:List V} (hr:rows[i]?=some r) :
  ∃e,es[i]?=some e/\Rep γ w bs u (A0 (mka z) (r.take (mkn z))) e.key/\Rep γ w bs u (A0 (mva z) (r.drop (mkn z))) e.val:=by
 have hi:i < es.size:=by grind
 have he:es[i]?=some es[i]:=(by grind)
 have hrl:=hz r (zO hr)
 obtain⟨k1,k2,k3,k4⟩:=hes es[i] (Array.getElem_mem hi)
 have cell:∀(j:Nat) (c:V),r[j]?=some c->∃v,(G4 z es[i])[j]?=some v/\Rep γ w bs u c v:=λj c hj=>by
  have hjl:j < mwd z:=by grind
  obtain⟨v,v1,v2,_⟩:=hc (i * mwd z+j) c (by grind [U1])
  grind [flatMap_get]
 have pack:∀(a:Bool) (l:List V) (v:Value),packW a (M9 a v)=v->(M9 a v).length=l.length->(∀(j:Nat) (c:V),l[j]?=some c->∃x,(M9 a v)[j]?=some x/\Rep γ w bs u c x)->Rep γ w bs u (A0 a l) v:=λa l v hp hl hx=>by
  cases a with
  | true=>
   have hv:v=.agg (M9 true v).toArray:=hp.symm
   rw[hv]
   refine .agg l _ hl λj c x hj hxj=>?_
   grind
  | false=>
   cases l with
   | nil=>simp[M9] at hl
   | cons c l=>
    obtain⟨y,y1,y2⟩:=hx 0 c rfl
    simp only[M9,wO,zp] at y1
    subst y1
    exact y2
 refine⟨es[i],he,pack _ _ _ k2 (by grind [List.length_take,mwd]) (λj c hj=>?_),pack _ _ _ k4 (by grind [List.length_drop,mwd]) (λj c hj=>?_)⟩
 ·grind [List.getElem?_append_left,G4]
 grind [List.getElem?_append_right,Nat.add_sub_cancel_left,G4]
def V5{α β:Type}(l:List α)(p:α->Bool)(f:α->β)(z:β):β:=match l.findIdx? p with
 | some j=>match l[j]? with
  | some x=>f x
  | none=>z
 | none=>z
def mput{α:Type}(l:List α)(p:α->Bool)(y:α):List α:=match l.findIdx? p with
 | some j=>l.set j y
 | none=>l++[y]
theorem mlook_map{α β γ:Type}(l:List α)(p:α->Bool)(f:α->β)(z:β)(g:β->γ):V5 l p (λx=>g (f x)) (g z)=g (V5 l p f z):=by
 grind [V5]
def zeroPack(P:Program)(t:TypeId):Option V:=match P.info? t with
 | some i=>match i.zero with
  | some (.agg a)=>(a.toList.mapM ofVal).map .agg
  | some v=>ofVal v
  | none=>none
 | none=>none
theorem run_zeroPack{P:Program}{γ:Gh}{w:World}{bs:ze}{u:zf}{t:TypeId}{c:V}(h:zeroPack P t=some c):∃v,(zeroValue t).run P w=.ok v w/\Rep γ w bs u c v:=by
 unfold zeroPack at h
 split at h
 ·rename_i i hi
  split at h
  ·rename_i a hz
   obtain⟨l,h1,rfl⟩:=zw.1 h
   have:=mapM_ofVal (γ:=γ) (w:=w) (bs:=bs) (u:=u) h1
   refine⟨.agg a,by simp[zeroValue,typeInfo,hi,hz],?_⟩
   have e:(.agg a:Value)=.agg a.toList.toArray:=by simp
   rw[e]
   exact .agg l _ (by have:=this.1;grind) λj c v hc hv=>this.2 j c v hc (by simpa using hv)
  ·rename_i v _ hz
   exact⟨v,by simp[zeroValue,typeInfo,hi,hz],.data (ofVal_rep h)⟩
  ·simp at h
 ·simp at h
section
variable {P:Program} {G:zd}
def Rule.makeMap(t:TypeId)(d z:Nat)(hz:J8<=z):Rule P G Unit where
 op:=.makeMap t none
 dst:=some d
 vals:=[]
 blks:=[]
 o:=some ()
 ws:=λ_=>[.b d (some ⟨z,true,[]⟩),.t d (.mp d)]
 dt:=[]
 dat:=(by grind)
 ok:=λ_ _ x st hop hdst _ _ hd=>W6 λγ a w hs=>by
  obtain⟨h1,h2⟩:=hd d rfl
  have key:=hs.newMap hz h2
  refine⟨.map (some w.heap.size),w.alloc (.map #[] 0),γ.add d w.heap.size,by simp[execOp,hop,Instr.makeMap],key.2.1,key.2.2.pin,?_⟩
  have:=key.1.put (a:=a) (dst:=some d) (c:=.mp d) (v:=.map (some w.heap.size)) (by simpa[H7,St.setB] using h1) (.mp d w.heap.size ⟨z,true,[]⟩ (by simp[St.setB]) (by simp[Gh.add]) hz)
  rw[hdst]
  exact this
structure MapW(P:Program)(mt kt et:TypeId)(z:Nat){α:Type}(ty:Ty α)(p:α->Bool)(kc:List V):Prop where
 m:P.underlying mt=some (.map kt et)
 a:mka z=H9 P kt
 s:(T2 P kt kc kc).isSome=true
 q:∀x,T2 P kt kc ((ty.c x).take (mkn z))=some (p x)
theorem MapW.find{mt kt et:TypeId}{z:Nat}{α:Type}{ty:Ty α}{p:α->Bool}{kc:List V}(h:MapW P mt kt et z ty p kc){γ:Gh}{w:World}{bs:ze}{u:zf}{b:Nat}{excl:Bool}{l:List α}{kv:Value}{B:Nat}
  (hb:L4 γ w bs u b ⟨z,excl,l.map ty.c⟩) (hl:γ.loc b=some (B,0)) (hM:J8<=z) (hk:Rep γ w bs u (A0 (H9 P kt) kc) kv) :
  ∃es clock,w.heap[B]?=some (.map es clock)/\γ.own B=some (.blk b)/\(EsOk z es/\Born es clock)/\es.size=l.length/\(∀r,r∈l.map ty.c->r.length=mwd z)/\
   (∀(i:Nat) (c:V),(l.map ty.c).flatten[i]?=some c->∃v,(es.toList.flatMap (G4 z))[i]?=some v/\Rep γ w bs u c v/\v.oneCell'=true)/\
   (∀em,(Instr.checkKey em 10000 kt kv).run P w=.ok () w)/\
   (Instr.findKey kt kv es.toList).run P w=.ok (match l.findIdx? p with|some j=>(es[j]?).map λe=>(j,e.val)|none=>none) w/\
   ∀(j:Nat) (x:α),l[j]?=some x->∃e,es[j]?=some e/\Rep γ w bs u (A0 (mka z) ((ty.c x).take (mkn z))) e.key/\Rep γ w bs u (A0 (mva z) ((ty.c x).drop (mkn z))) e.val:=by
 rcases hb with⟨h0,_⟩|⟨_,B',es,clock,h1,h2,h3,h4,h5,h6,h7⟩|hb
 ·grind
 ·rw[hl] at h1;simp only[zp,zJ,and_true] at h1
  subst h1
  have rows:∀(j:Nat) (x:α),l[j]?=some x->∃e,es[j]?=some e/\Rep γ w bs u (A0 (mka z) ((ty.c x).take (mkn z))) e.key/\Rep γ w bs u (A0 (mva z) ((ty.c x).drop (mkn z))) e.val:=λj x hx=>
   MapAt.row h4 h5 h6.1 h7 (by grind)
  have hsz:es.size=l.length:=by simpa using h4
  refine⟨es,clock,h3,h2,h6,hsz,h5,h7,λem=>run_checkKeyV h.s hk em,?_,rows⟩
  rw[run_findKeyV hk es.toList (l.map p) (by simp[hsz]) (λj e he=>?_) h.s,firstAt_idx p l es.toList 0 (by simpa using hsz)]
  ·grind
  ·have hj:j < l.length:=by grind
   have hx:l[j]?=some l[j]:=zR hj
   obtain⟨e',e1,e2,_⟩:=rows j _ hx
   have:e'=e:=by
    grind
   subst this
   exact⟨p l[j],(ty.c l[j]).take (mkn z),by grind,h.q _,by rw[<-h.a];exact e2⟩
 ·exact absurd hb.1 (Nat.not_lt_of_le hM)
theorem run_look{mt kt et:TypeId}{z:Nat}{α:Type}{ty:Ty α}{p:α->Bool}{kc:List V}(h:MapW P mt kt et z ty p kc){γ:Gh}{w:World}{bs:ze}{u:zf}{b:Nat}{excl:Bool}{l:List α}{kv mv:Value}{zv:V}
  (hb:∀b k,bs b=some k->L4 γ w bs u b k) (hbb:bs b=some ⟨z,excl,l.map ty.c⟩) (hm:Rep γ w bs u (.mp b) mv) (hk:Rep γ w bs u (A0 (H9 P kt) kc) kv) (hz:zeroPack P et=some zv) (ok:Bool) :
  ∃v,(Instr.lookup mt mv kv ok).run P w=.ok v w/\Rep γ w bs u (bif ok then .tup [V5 l p (λx=>A0 (mva z) ((ty.c x).drop (mkn z))) zv,.bool (l.findIdx? p).isSome] else V5 l p (λx=>A0 (mva z) ((ty.c x).drop (mkn z))) zv) v:=by
 obtain⟨B,rfl,hl,hM⟩:=hm.mp_inv hbb
 obtain⟨es,clock,h1,h2,h3,h4,h5,h6,h7,h8,h9⟩:=h.find (hb b _ hbb) hl hM hk
 obtain⟨zval,z1,z2⟩:=run_zeroPack (P:=P) (γ:=γ) (w:=w) (bs:=bs) (u:=u) hz
 have key:∃(v:Value),(Instr.lookup mt (.map (some B)) kv ok).run P w=.ok (if ok=true then .tuple #[v,.bool (l.findIdx? p).isSome] else v) w/\Rep γ w bs u (V5 l p (λx=>A0 (mva z) ((ty.c x).drop (mkn z))) zv) v:=by
  unfold V5
  cases hf:l.findIdx? p with
  | none=>
   rw[hf] at h8
   refine⟨zval,?_,z2⟩
   simp only[Instr.lookup,zM,zE h.m,zQ,MapKept.run_getObj_map h1,wC,h7,h8,z1,Option.isSome_none]
  | some j=>
   rw[hf] at h8
   have hj:j < l.length:=(List.findIdx?_eq_some_iff_getElem.1 hf).1
   have hx:l[j]?=some l[j]:=zR hj
   obtain⟨e,e1,_,e3⟩:=h9 j _ hx
   simp only[e1,wu] at h8
   refine⟨e.val,?_,?_⟩
   ·simp only[Instr.lookup,zM,zE h.m,zQ,MapKept.run_getObj_map h1,wC,h7,h8,Option.isSome_some]
   grind
 obtain⟨v,k2,k3⟩:=key
 cases ok with
 | false=>grind
 | true=>
  refine⟨.tuple #[v,.bool (l.findIdx? p).isSome],by simpa using k2,?_⟩
  exact .tup _ [v,.bool (l.findIdx? p).isSome] rfl λi c x hc hx=>by
   match i,hc,hx with
   | 0,hc,hx=>grind
   | 1,hc,hx=>simp at hc hx;subst hc;subst hx;exact .data (.bool _)
   | n+2,hc,hx=>simp at hc
def Rule.look{α:Type}{mt kt et:TypeId}{z:Nat}{ty:Ty α}{p:α->Bool}{kc:List V}(om oi:Operand)(d b:Nat)(excl:Bool)(l:List α)(zv res:V)(h:MapW P mt kt et z ty p kc)(hz:zeroPack P et=some zv)
  (hr:V5 l p (λx=>A0 (mva z) ((ty.c x).drop (mkn z))) zv=res):Rule P G Unit where
 op:=.lookup mt om oi false
 dst:=some d
 vals:=[(om,.mp b),(oi,A0 (H9 P kt) kc)]
 blks:=[(b,⟨z,excl,l.map ty.c⟩)]
 o:=some ()
 ws:=λ_=>[.t d res]
 dt:=[]
 dat:=(by grind)
 ok:=λ_ _ x st hop hdst hv hb hd=>by
  obtain⟨h1,_⟩:=hd d rfl
  have:=D3 (P:=P) (G:=G) (o:=x) (st:=st) (c:=res) (by grind [H7]) λγ a w hs=>by
   obtain⟨v,r1,r2⟩:=run_look h hs.b (hb (b,⟨z,excl,l.map ty.c⟩) (by simp)) (hv (om,.mp b) (by simp) γ a w hs) (hv (oi,A0 (H9 P kt) kc) (by simp) γ a w hs) hz false
   simp_all [cond_false,execOp]
  rw[hdst] at this
  exact this
def Rule.look2{α:Type}{mt kt et:TypeId}{z:Nat}{ty:Ty α}{p:α->Bool}{kc:List V}(om oi:Operand)(d b:Nat)(excl:Bool)(l:List α)(zv res:V)(h:MapW P mt kt et z ty p kc)(hz:zeroPack P et=some zv)
  (hr:V5 l p (λx=>A0 (mva z) ((ty.c x).drop (mkn z))) zv=res):Rule P G Unit where
 op:=.lookup mt om oi true
 dst:=some d
 vals:=[(om,.mp b),(oi,A0 (H9 P kt) kc)]
 blks:=[(b,⟨z,excl,l.map ty.c⟩)]
 o:=some ()
 ws:=λ_=>[.t d (.tup [res,.bool (l.findIdx? p).isSome])]
 dt:=[]
 dat:=(by grind)
 ok:=λ_ _ x st hop hdst hv hb hd=>by
  obtain⟨h1,_⟩:=hd d rfl
  have:=D3 (P:=P) (G:=G) (o:=x) (st:=st) (c:=.tup [res,.bool (l.findIdx? p).isSome]) (by grind [H7]) λγ a w hs=>by
   obtain⟨v,r1,r2⟩:=run_look h hs.b (hb (b,⟨z,excl,l.map ty.c⟩) (by simp)) (hv (om,.mp b) (by simp) γ a w hs) (hv (oi,A0 (H9 P kt) kc) (by simp) γ a w hs) hz true
   simp_all [cond_true,execOp]
  rw[hdst] at this
  exact this
theorem eqFlat_true:∀{xs ys:List V},H3 xs ys=some true->xs=ys/\∀{γ:Gh} {w:World} {bs:ze} {u:zf} (i:Nat) (c:V),xs[i]?=some c->∃v,(∀x,Rep γ w bs u c x->x=v)/\Instr.sameBits 9999 v v=true
 | [],[],_=>(by grind)
 | [],y :: ys,h=>by simp[H3] at h
 | x :: xs,[],h=>by grind [H3]
 | x :: xs,y :: ys,h=>by
  cases x<;>cases y<;>simp only[H3] at h<;>try (simp at h;done)
  case int.int k a k' b=>
   split at h
   ·rename_i hk
    subst hk
    obtain⟨r,h1,h2⟩:=zw.1 h
    simp only[zC,beq_iff_eq] at h2
    obtain⟨rfl,rfl⟩:=h2
    obtain⟨rfl,ih⟩:=eqFlat_true h1
    refine⟨rfl,λi c hc=>?_⟩
    cases i with
    | zero=>
     simp only[wO,zp] at hc
     subst hc
     exact⟨_,λx hx=>hx.int_inv,by simp[Instr.sameBits]⟩
    | succ i=>exact ih i c (by simpa using hc)
   ·simp at h
  case str.str a b=>
   obtain⟨r,h1,h2⟩:=zw.1 h
   simp only[zC,zG] at h2
   obtain⟨rfl,rfl⟩:=h2
   obtain⟨rfl,ih⟩:=eqFlat_true h1
   refine⟨rfl,λi c hc=>?_⟩
   cases i with
   | zero=>
    simp only[wO,zp] at hc
    subst hc
    exact⟨_,λx hx=>hx.str_inv,by simp[Instr.sameBits,MapKept.bytes_beq]⟩
   | succ i=>exact ih i c (by simpa using hc)
  case bool.bool a b=>
   obtain⟨r,h1,h2⟩:=zw.1 h
   simp only[zC,beq_iff_eq] at h2
   obtain⟨rfl,rfl⟩:=h2
   obtain⟨rfl,ih⟩:=eqFlat_true h1
   refine⟨rfl,λi c hc=>?_⟩
   cases i with
   | zero=>
    simp only[wO,zp] at hc
    subst hc
    exact⟨_,λx hx=>hx.bool_inv,by simp[Instr.sameBits]⟩
   | succ i=>exact ih i c (by simpa using hc)
theorem keyEq_same{t:TypeId}{xs ys:List V}(h:T2 P t xs ys=some true){γ:Gh}{w:World}{bs:ze}{u:zf}{k k':Value}(hk:Rep γ w bs u (A0 (H9 P t) xs) k)
  (hk':Rep γ w bs u (A0 (H9 P t) ys) k'):k'=k/\(Instr.keyThatStays k' k).run P w=.ok k w:=by
 have fin:k'=k->Instr.sameBits 10000 k k=true->k'=k/\(Instr.keyThatStays k' k).run P w=.ok k w:=λe hs=>by
  subst e
  exact⟨rfl,by simp[Instr.keyThatStays,hs]⟩
 rcases keyEq_kind h with⟨q,hu⟩|hu|ha
 ·have ha:H9 P t=false:=by simp[H9,hu]
  rw[ha] at hk hk'
  obtain⟨k1,a,b,rfl,rfl,e⟩:=keyEq_int hu h
  have e:a=b:=by grind
  subst e
  have h1:=Rep.int_inv (hk:Rep γ w bs u (.int k1 a) k)
  have h2:=Rep.int_inv (hk':Rep γ w bs u (.int k1 a) k')
  grind [Instr.sameBits]
 ·have ha:H9 P t=false:=by simp[H9,hu]
  rw[ha] at hk hk'
  obtain⟨a,b,rfl,rfl,e⟩:=keyEq_str hu h
  have e:a=b:=by grind
  subst e
  have h1:=Rep.str_inv (hk:Rep γ w bs u (.str a) k)
  have h2:=Rep.str_inv (hk':Rep γ w bs u (.str a) k')
  grind [MapKept.bytes_beq,Instr.sameBits]
 ·rw[ha] at hk hk'
  replace h:=keyEq_flat ha h
  obtain⟨rfl,cells⟩:=eqFlat_true h
  obtain⟨v1,rfl,l1,c1⟩:=(hk:Rep γ w bs u (.agg xs) k).agg_inv
  obtain⟨v2,rfl,l2,c2⟩:=(hk':Rep γ w bs u (.agg xs) k').agg_inv
  have e:v2=v1:=by
   refine List.ext_getElem (by omega) λi h1 h2=>?_
   have hx:xs[i]?=some (xs[i]'(by omega)):=(by grind)
   obtain⟨v,u1,_⟩:=cells (γ:=γ) (w:=w) (bs:=bs) (u:=u) i _ hx
   rw[u1 _ (c2 i _ _ hx (zR h1)),u1 _ (c1 i _ _ hx (zR h2))]
  subst e
  refine fin rfl ?_
  show Instr.sameBits (9999+1) _ _=true
  simp only[Instr.sameBits,beq_self_eq_true,Bool.true_and,zH]
  intro q hq
  obtain⟨i,hi,e⟩:=List.getElem_of_mem hq
  rw[List.getElem_zip] at e
  rw[<-e]
  simp only[List.length_zip,Nat.min_self] at hi
  have hx:xs[i]?=some (xs[i]'(by omega)):=(by grind)
  obtain⟨v,u1,u2⟩:=cells (γ:=γ) (w:=w) (bs:=bs) (u:=u) i _ hx
  have:=u1 _ (c1 i _ _ hx (zR hi))
  grind
theorem dcell_isCell{c:V}(h:H2 c=true):c.isCell=true:=by cases c<;>simp_all [H2,V.isCell]
theorem unpack_rep{γ:Gh}{w:World}{bs:ze}{u:zf}{a:Bool}{l:List V}{v:Value}(h:Rep γ w bs u (A0 a l) v)(h1:a=false->l.length=1) :
  (M9 a v).length=l.length/\packW a (M9 a v)=v/\∀(j:Nat) (c:V),l[j]?=some c->∃x,(M9 a v)[j]?=some x/\Rep γ w bs u c x:=by
 cases a with
 | true=>
  obtain⟨vs,rfl,e1,e2⟩:=(h:Rep γ w bs u (.agg l) v).agg_inv
  refine⟨by simpa[M9] using e1,by simp[packW,M9],λj c hj=>?_⟩
  have hlt:j < vs.length:=by grind
  have hx:vs[j]?=some vs[j]:=(by grind)
  grind [M9]
 | false=>
  have:=h1 rfl
  match l,this,h with
  | [c],_,h=>
   refine⟨rfl,rfl,λj c' hj=>?_⟩
   cases j with
   | zero=>simp at hj;subst hj;exact⟨v,rfl,h⟩
   | succ j=>simp at hj
theorem rows_cells{z:Nat}{es:Array MapEntry}{rows:List (List V)}{R:V->Value->Prop}(hes:EsOk z es)(hlen:es.size=rows.length)(hz:∀r,r∈rows->r.length=mwd z) :
  (∀(i:Nat) (c:V),rows.flatten[i]?=some c->∃v,(es.toList.flatMap (G4 z))[i]?=some v/\R c v)↔
   ∀(q:Nat) (r:List V) (e:MapEntry),rows[q]?=some r->es[q]?=some e->∀(j:Nat) (c:V),r[j]?=some c->∃v,(G4 z e)[j]?=some v/\R c v:=by
 constructor
 ·intro h q r e hr he j c hj
  have hjl:j < mwd z:=by grind
  obtain⟨v,v1,v2⟩:=h (q * mwd z+j) c (by grind [U1])
  grind [flatMap_get]
 ·intro h i c hc
  have hpos:0 < mwd z:=by
   grind [Nat.eq_zero_or_pos,List.flatten_eq_nil_iff,List.length_eq_zero_iff,mwd,trans]
  have e:i=(i / mwd z) * mwd z+i % mwd z:=by grind [Nat.mul_comm,Nat.div_add_mod,mwd]
  have hm:=Nat.mod_lt i hpos
  rw[e,U1 rows hz _ _ hm] at hc
  obtain⟨r,hr,hc⟩:=zL.1 hc
  have hq:i / mwd z < es.size:=by grind
  have he:es[i / mwd z]?=some es[i / mwd z]:=(by grind)
  grind [flatMap_get]
def Rule.put{α:Type}{mt kt et:TypeId}{z:Nat}{ty:Ty α}{p:α->Bool}{kc:List V}(om oi ov:Operand)(b:Nat)(l:List α)(y:α)(vc:List V)(h:MapW P mt kt et z ty p kc)
    (hy:ty.c y=kc++vc) (hk:kc.length=mkn z) (hv:vc.length=mvn z) (hk1:mka z=false->mkn z=1) (hv1:mva z=false->mvn z=1):Rule P G Unit where
  op:=.mapUpdate mt om oi ov
  dst:=none
  vals:=[(om,.mp b),(oi,A0 (H9 P kt) kc),(ov,A0 (mva z) vc)]
  blks:=[(b,⟨z,true,l.map ty.c⟩)]
  o:=some ()
  ws:=λ_=>[.b b (some ⟨z,true,(mput l p y).map ty.c⟩)]
  dt:=[b]
  dat:=λ_ i k hm _=>by
    simp only[we,Wr.b.injEq,zp] at hm
    obtain⟨_,rfl⟩:=hm
    exact ty.data _
  ok:=λ_ _ x st hop hdst hvs hb _=>effO_skip λγ a w hs=>by
    have hbb:=hb (b,⟨z,true,l.map ty.c⟩) (by simp)
    have rm:=hvs (om,.mp b) (by simp) γ a w hs
    have rk:=hvs (oi,A0 (H9 P kt) kc) (by simp) γ a w hs
    have rv:=hvs (ov,A0 (mva z) vc) (by simp) γ a w hs
    obtain⟨B,hB,hl,hM⟩:=rm.mp_inv hbb
    obtain⟨es,clock,h1,h2,h3,h4,h5,h6,h7,h8,h9⟩:=h.find (hs.b b _ hbb) hl hM rk
    rw[<-h.a] at rk
    obtain⟨u1,u2,u3⟩:=unpack_rep rk (λe=>by rw[hk];exact hk1 e)
    obtain⟨t1,t2,t3⟩:=unpack_rep rv (λe=>by rw[hv];exact hv1 e)
    have hold:=(rows_cells h3.1 (by rw[h4];simp) h5).1 h6
    have newOk:∀e:MapEntry,e.key=a.eval oi->e.val=a.eval ov->(M9 (mka z) e.key).length=mkn z/\packW (mka z) (M9 (mka z) e.key)=e.key/\(M9 (mva z) e.val).length=mvn z/\packW (mva z) (M9 (mva z) e.val)=e.val:=(by grind)
    have newCells:∀e:MapEntry,e.key=a.eval oi->e.val=a.eval ov->∀(j:Nat) (c:V),(ty.c y)[j]?=some c->∃v,(G4 z e)[j]?=some v/\Rep γ w st.b st.u c v/\v.oneCell'=true:=λe e1 e2 j c hj=>by
      have hcell:=dcell_isCell (zH.1 (ty.cd y) c (zO hj))
      rw[hy] at hj
      have:∃v,(G4 z e)[j]?=some v/\Rep γ w st.b st.u c v:=by
        grind [List.getElem?_append_left,List.getElem?_append_right,G4]
      obtain⟨v,v1,v2⟩:=this
      exact⟨v,v1,v2,v2.isCell_one hcell⟩
    have hyl:(ty.c y).length=mwd z:=by rw[hy,wM,hk,hv];rfl
    have fin:∀(es':Array MapEntry) (clock':Nat),es'.size=(mput l p y).length->(EsOk z es'/\Born es' clock')->(∀(q:Nat) (x':α) (e:MapEntry),(mput l p y)[q]?=some x'->es'[q]?=some e->(x'=y/\e.key=a.eval oi/\e.val=a.eval ov)\/(l[q]?=some x'/\es[q]?=some e))->
        (Instr.mapUpdate mt (a.eval om) (a.eval oi) (a.eval ov)).run P w=.ok () (w.putObj B (.map es' clock'))->
        ∃w' γ',(execOp a.eval x).run P w=.ok .skip w'/\Grow γ w γ' w'/\Pin γ st.b st.u γ' (st.app [.b b (some ⟨z,true,(mput l p y).map ty.c⟩)]).b (st.app [.b b (some ⟨z,true,(mput l p y).map ty.c⟩)]).u/\
          Sim G γ' (st.app [.b b (some ⟨z,true,(mput l p y).map ty.c⟩)]) (a.put x.dst undef).tmps w':=λes' clock' g1 g2 g3 g4=>by
      have hz':∀r,r∈(mput l p y).map ty.c->r.length=mwd z:=λr hr=>by
        obtain⟨x',hx',rfl⟩:=zF.1 hr
        obtain⟨q,hq⟩:=wK.1 hx'
        have hqs:q < es'.size:=by grind
        rcases g3 q x' _ hq (wl hqs) with⟨e1,_⟩|⟨e1,_⟩
        · grind
        grind
      have key:=hs.putMap (clock':=clock') (es':=es') (rows':=(mput l p y).map ty.c) hbb hM hl h2 h1 (by rw[g1];simp) hz' g2 ((rows_cells g2.1 (by rw[g1];simp) hz').2 λq r e hr he j c hj=>by
        rw[zV,zw] at hr
        obtain⟨x',hx',rfl⟩:=hr
        grind)
      refine⟨w.putObj B (.map es' clock'),γ,by simp[execOp,hop,g4],key.2.1,key.2.2.pin,?_⟩
      rw[hdst]
      exact key.1
    cases hf:l.findIdx? p with
    | none=>
      have hm:mput l p y=l++[y]:=by unfold mput;rw[hf]
      refine fin (es.push { key:=a.eval oi,val:=a.eval ov,born:=clock }) (clock+1) (by grind) ⟨λe he=>?_,by
          refine⟨?_,λe he=>?_⟩
          · simp only[Array.toList_push,wA,zW,List.map_nil]
            refine List.nodup_append.2 ⟨h3.2.1,by simp,λx hx y hy e=>?_⟩
            obtain⟨e0,he0,rfl⟩:=zF.1 hx
            simp only[we] at hy
            have:=h3.2.2 e0 he0
            omega
          · simp only[Array.toList_push,zU,we] at he
            rcases he with he|rfl
            · exact Nat.lt_succ_of_lt (h3.2.2 e he)
            grind⟩ (λq x' e hq he=>?_) ?_
      · rcases Array.mem_push.1 he with he|rfl
        · exact h3.1 e he
        grind
      · grind
      · rw[hf] at h8
        rw[hB]
        simp only[Instr.mapUpdate,zM,zE h.m,zQ,MapKept.run_getObj_map h1,h7,h8]
        exact MapKept.run_setObj_map _ h1
    | some j=>
      have hm:mput l p y=l.set j y:=by unfold mput;rw[hf]
      obtain⟨hj,hpj,_⟩:=List.findIdx?_eq_some_iff_getElem.1 hf
      have hx:l[j]?=some l[j]:=zR hj
      obtain⟨e,e1,e2,e3⟩:=h9 j _ hx
      obtain⟨k1,k2⟩:=keyEq_same (P:=P) (t:=kt) (by rw[h.q,hpj]) (hvs (oi,A0 (H9 P kt) kc) (by simp) γ a w hs) (by rw[<-h.a];exact e2)
      refine fin (es.modify j λe=>{ e with key:=a.eval oi,val:=a.eval ov }) clock (by grind) ⟨λe' he=>?_,by
          have hb:(es.modify j λe=>{ e with key:=a.eval oi,val:=a.eval ov }).toList.map (·.born)=es.toList.map (·.born):=by
            refine List.ext_getElem? λq=>?_
            rw[zV,zV,Array.getElem?_toList,Array.getElem?_toList,Array.getElem?_modify]
            grind
          refine⟨by rw[hb];exact h3.2.1,λe' he'=>?_⟩
          have hm':e'.born∈es.toList.map (·.born):=by grind
          obtain⟨e0,he0,e1⟩:=zF.1 hm'
          rw[<-e1];exact h3.2.2 e0 he0⟩ (λq x' e' hq he=>?_) ?_
      · obtain⟨q,hq,rfl⟩:=Array.mem_iff_getElem.1 he
        rw[Array.getElem_modify]
        split
        · grind
        · exact h3.1 _ (Array.getElem_mem _)
      · grind
      · rw[hf] at h8
        simp only[e1,wu] at h8
        rw[hB]
        simp only[Instr.mapUpdate,zM,zE h.m,zQ,MapKept.run_getObj_map h1,h7,h8,e1,wu,Option.getD_some,k2]
        exact MapKept.run_setObj_map _ h1
end
theorem Ty.notOwn{α:Type}{ty:Ty α}(hs:∀y,ty.c y=ty.d y)(y:α){c:V}(hc:c∈ty.c y):c.isOwn=false:=by
 rw[hs y,<-ty.st y] at hc
 obtain⟨c0,_,rfl⟩:=zF.1 hc
 exact strip_own c0
def D6{α:Type}(l:List α)(p:Nat)(r:List α):List α:=l.take p++r++l.drop (p+r.length)
theorem over_length{α:Type}(l:List α)(p:Nat)(r:List α)(h:p+r.length<=l.length):(D6 l p r).length=l.length:=by
 simp[D6];omega
theorem over_get{α:Type}(l:List α)(p:Nat)(r:List α)(h:p+r.length<=l.length)(q:Nat):(D6 l p r)[q]?=if p<=q/\q < p+r.length then r[q - p]? else l[q]?:=by
 unfold D6
 have e1:(l.take p).length=p:=by simp;omega
 grind
theorem Sim.putRows{G:zd}{γ:Gh}{st:St}{tmps:Array Value}{w:World}(h:Sim G γ st tmps w){α:Type}{ty:Ty α}{l r:List α}{b z p B o:Nat}{cs:Array Value}{e:TypeId}{news:List Value}
  (hk:st.b b=some ⟨z,true,l.map ty.c⟩) (hM:z < J8) (hs:∀y,ty.c y=ty.d y) (hloc:γ.loc b=some (B,o)) (hown:γ.own B=some (.blk b)) (hheap:E7 w B cs e)
  (h4:∀r,r∈l.map ty.c->r.length=z) (h5:o+(l.map ty.c).length * z<=cs.size)
  (h6:∀(i:Nat) (c:V),(l.map ty.c).flatten[i]?=some c->∃v,cs[o+i]?=some v/\Rep γ w st.b st.u c v/\v.oneCell'=true/\D8 γ w (.nest b (i / z) (i % z)) c v) (hlim:γ.lim B=0)
  (hp:p+r.length<=l.length) (hn:news.length=r.length * z) (hrz:∀q,q∈r.map ty.c->q.length=z)
  (hnew:∀(i:Nat) (c:V),(r.map ty.c).flatten[i]?=some c->∃v,news[i]?=some v/\Rep γ w st.b st.u c v/\v.oneCell'=true) :
  Sim G γ (st.setB b ⟨z,true,(D6 l p r).map ty.c⟩) tmps (World.setBlk w B (M8 cs (o+p * z) news) e)/\Grow γ w γ (World.setBlk w B (M8 cs (o+p * z) news) e)/\
   L7 γ st.b st.u γ (st.setB b ⟨z,true,(D6 l p r).map ty.c⟩).b (st.setB b ⟨z,true,(D6 l p r).map ty.c⟩).u:=by
 have hl:(l.map ty.c).length=l.length:=by simp
 rw[hl] at h5
 have hle:(p+r.length) * z<=l.length * z:=wF _ hp
 rw[wv] at hle
 obtain⟨r1,r2⟩:=G8 news (o+p * z) cs (by rw[hn];omega)
 have hz':∀q,q∈(D6 l p r).map ty.c->q.length=z:=λq hq=>by
  obtain⟨y,hy,rfl⟩:=zF.1 hq
  unfold D6 at hy
  grind
 refine h.storeBlk (k:=⟨z,true,l.map ty.c⟩) hk hM hloc hown hheap r1 hlim hz' (by simp[over_length l p r hp]) (by grind) λi c hc=>?_
 have hpos:0 < z:=by
  rcases wQ z with h0|h0
  ·have:((D6 l p r).map ty.c).flatten=[]:=by
    grind [List.flatten_eq_nil_iff,List.length_eq_zero_iff,trans]
   grind
  ·exact h0
 have ei:i=(i / z) * z+i % z:=by grind [Nat.mul_comm,Nat.div_add_mod]
 have hm:=Nat.mod_lt i hpos
 have hc':=hc
 rw[ei,U1 _ hz' _ _ hm,zV,over_get l p r hp] at hc'
 rw[r2,hn]
 by_cases hq:p<=i / z/\i / z < p+r.length
 ·rw[if_pos hq] at hc'
  have a1:p * z<=i / z * z:=wF _ hq.1
  have a2:(i / z+1) * z<=(p+r.length) * z:=wF _ hq.2
  rw[wv,wv] at a2
  rw[if_pos (by omega)]
  have e2:o+i - (o+p * z)=(i / z - p) * z+i % z:=by
   rw[Nat.sub_mul];omega
  have hcr:(r.map ty.c).flatten[(i / z - p) * z+i % z]?=some c:=by grind [U1]
  obtain⟨v,v1,v2,v3⟩:=hnew _ c hcr
  obtain⟨q,hq1,hq2⟩:=wN.1 (zO hcr)
  obtain⟨y,_,rfl⟩:=zF.1 hq1
  exact⟨v,by grind,v2,v3,.of_not_own (Ty.notOwn hs y hq2)⟩
 ·rw[if_neg hq] at hc'
  have hno:¬(o+p * z<=o+i/\o+i < o+p * z+r.length * z):=(by grind [Nat.le_div_iff_mul_le,Nat.div_lt_iff_lt_mul,Nat.add_mul])
  rw[if_neg hno]
  have hcl:(l.map ty.c).flatten[i]?=some c:=by grind [U1]
  grind
section
variable {P:Program} {G:zd}
def Rule.appSame{α:Type}{ty:Ty α}{t t2 e e2:TypeId}{z:Nat}(ox oy:Operand)(d b i j m:Nat)(l:List α)(ht:P.underlying t=some (.slice e))(ht2:P.underlying t2=some (.slice e2))(hi:(P.info? e).map TypeInfo.size=some z)
    (hs:∀y,ty.c y=ty.d y):Rule P G Unit where
  op:=.call { callee:=.builtin .append,args:=#[ox,oy],argTypes:=#[t,t2] }
  dst:=some d
  vals:=[(ox,.ref b 0 i),(oy,.ref b j m)]
  blks:=[(b,⟨z,true,l.map ty.c⟩)]
  o:=bif decide (i<=j/\j+m<=l.length/\0 < l.length) then some () else none
  ws:=λ_=>[.b b (some ⟨z,true,(D6 l i ((l.drop j).take m)).map ty.c⟩),.t d (.ref b 0 (i+m))]
  dt:=[b]
  dat:=λ_ q k hm _=>by
    simp only[zT,wg,or_false,Wr.b.injEq,zp,reduceCtorEq] at hm
    obtain⟨_,rfl⟩:=hm
    exact ty.data _
  ok:=λ_ ho x st hop hdst hvs hb hd=>W6 λγ a w hsim=>by
    have hc:i<=j/\j+m<=l.length/\0 < l.length:=by
      grind
    obtain⟨hij,hjm,hpos⟩:=hc
    have hbb:st.b b=some ⟨z,true,l.map ty.c⟩:=hb (b,⟨z,true,l.map ty.c⟩) (by simp)
    have rx:Rep γ w st.b st.u (.ref b 0 i) (a.eval ox):=hvs (ox,.ref b 0 i) (by simp) γ a w hsim
    have ry:Rep γ w st.b st.u (.ref b j m) (a.eval oy):=hvs (oy,.ref b j m) (by simp) γ a w hsim
    obtain⟨hdn,_⟩:=hd d rfl
    obtain⟨ei,hi2,hz⟩:=zw.1 hi
    subst hz
    have hll:(l.map ty.c).length=l.length:=by simp
    rcases rx.ref_inv hbb with⟨B,o,cap,hv,hl,hil,hcap,hroom,hM,hcp⟩|⟨B,_,_,h0,_⟩|⟨_,_,h0,_⟩
    · rcases hsim.b b _ hbb with⟨v1,_⟩|hm|⟨_,B',o',cs,e',h1,h2,h3,h4,h5,h6,h7,h8⟩
      · grind
      · exact(hm.small hM).elim
      rw[hl] at h1;simp only[zp,zJ] at h1
      obtain⟨rfl,rfl⟩:=h1
      simp only at hM hcp h4 h5 h6 h7 hv hroom
      rw[hll] at hcp
      obtain⟨vs,so,_⟩:=ref_shape (P:=P) hsim hbb (by grind) ry true
      have hrl:(((l.map ty.c).drop j).take m).length=m:=by simp;omega
      have hlen:=so.len
      have hfirst:=so.first
      simp only[hrl] at hlen hfirst
      have hvl:vs.length=m * ei.size:=by have:=so.rd.2.1;grind
      have hone:∀v,v∈vs->v.oneCell'=true:=λv hv=>by
        obtain⟨q,hq,rfl⟩:=List.getElem_of_mem hv
        have fl:(((l.map ty.c).drop j).take m).flatten.length=m * ei.size:=by
          rw[List.length_flatten]
          have:(((l.map ty.c).drop j).take m).map List.length=List.replicate (((l.map ty.c).drop j).take m).length ei.size:=List.eq_replicate_iff.2 (by grind)
          simp_all
        obtain⟨v,a1,_,a3,_⟩:=so.rd.2.2 q _ (zR (show q < (((l.map ty.c).drop j).take m).flatten.length by rw[fl];omega))
        grind
      rw[hll] at h5
      have hle:(i+m) * ei.size<=l.length * ei.size:=wF _ (by omega)
      rw[wv] at hle
      have hrun:=run_append_in_any (P:=P) (w:=w) t t2 x.type e e2 ei ht ht2 hi2 B o i cap m (a.eval oy) vs cs e' hlen hfirst (by omega) h3 hone (by rw[hvl];omega)
      have er:((l.drop j).take m).map ty.c=((l.map ty.c).drop j).take m:=by simp_all
      have el:((l.drop j).take m).length=m:=by simp;omega
      have hov:=over_length l i ((l.drop j).take m) (by rw[el];omega)
      have key:=hsim.putRows (r:=(l.drop j).take m) (p:=i) (news:=vs) hbb hM hs hl h2 h3 h4 (by rw[hll];exact h5) h6 (h7 trivial) (by rw[el];omega) (by rw[el];exact hvl) (by rw[er];exact so.rd.1) (by
        rw[er];exact λq c hc=>by obtain⟨v,v1,v2,v3,_⟩:=so.rd.2.2 q c hc;exact⟨v,v1,v2,v3⟩)
      have pre : execOp a.eval x = (do let v <- Builtin.append_ #[t, t2] x.type #[a.eval ox, a.eval oy]; pure (.value v)) := by
        have h1:execOp a.eval x=builtin .append #[t,t2] x.type (#[ox,oy].map fun|.const _=>true|_=>false) (#[ox,oy].map a.eval):=by
          show (execOp a.eval x)=_;unfold execOp;rw[hop];rfl
        rw[h1];simp[builtin]
      have ev:a.eval ox=.slice (some ⟨B,o,none⟩) i cap:=by simpa using hv
      refine⟨.slice (some ⟨B,o,none⟩) (i+m) cap,_,γ,by rw[pre,zM,ev,hrun,zQ];rfl,key.2.1,key.2.2.pin,?_⟩
      have hp:=key.1.put (a:=a) (dst:=some d) (c:=.ref b 0 (i+m)) (v:=.slice (some ⟨B,o,none⟩) (i+m) cap) (by simpa[H7,St.setB] using hdn) (by
        have hr2:=key.2.1.roomAt hroom
        have:=Rep.ref (γ:=γ) (w:=World.setBlk w B (M8 cs (o+i * ei.size) vs) e') (bs:=(st.setB b ⟨ei.size,true,(D6 l i ((l.drop j).take m)).map ty.c⟩).b) (u:=(st.setB b ⟨ei.size,true,(D6 l i ((l.drop j).take m)).map ty.c⟩).u) b 0 (i+m) B o cap ⟨ei.size,true,(D6 l i ((l.drop j).take m)).map ty.c⟩ (by simp[St.setB]) hl (by show 0+(i+m)<=((D6 l i ((l.drop j).take m)).map ty.c).length;rw[wj,hov];omega) (by omega) hr2 hM (by show ((D6 l i ((l.drop j).take m)).map ty.c).length<=0+cap;rw[wj,hov];omega)
        simpa using this)
      rw[hdst]
      exact hp
    · have h0:(l.map ty.c).length=0:=h0
      rw[hll] at h0;omega
    · have h0:(l.map ty.c).length=0:=h0
      rw[hll] at h0;omega
def Rule.appCut{α:Type}{ty:Ty α}{t t2 e e2:TypeId}{z bytes:Nat}(ox oy:Operand)(d b i j m:Nat)(l:List α)(ht:P.underlying t=some (.slice e))(ht2:P.underlying t2=some (.slice e2))(hi:(P.info? e).map (λi=>(i.size,i.bytes))=some (z,bytes))(hby:0 < bytes)
    (hz:(zeroV P e).map List.length=some z) (hs:∀y,ty.c y=ty.d y):Rule P G Unit where
  op:=.call { callee:=.builtin .append,args:=#[ox,oy],argTypes:=#[t,t2] }
  dst:=some d
  vals:=[(ox,.ref b 0 i),(oy,.ref b j m)]
  blks:=[(b,⟨z,true,l.map ty.c⟩)]
  o:=bif decide (i<=l.length/\j+m<=l.length/\(i+m) * bytes<=140737488355328) then some () else none
  ws:=λ_=>[.b b none,.b d (some ⟨z,true,(l.take i++(l.drop j).take m).map ty.c⟩),.t d (.ref d 0 (l.take i++(l.drop j).take m).length)]
  dt:=[d]
  dat:=λ_ q k hm _=>by
    simp only[zT,wg,or_false,Wr.b.injEq,zp,reduceCtorEq,and_false,false_or] at hm
    obtain⟨_,rfl⟩:=hm
    exact ty.data _
  ok:=λ_ ho x st hop hdst hvs hb hd=>by
    have hc:i<=l.length/\j+m<=l.length/\(i+m) * bytes<=140737488355328:=by
      grind
    obtain⟨h1,h2,h3⟩:=hc
    have hbb:st.b b=some ⟨z,true,l.map ty.c⟩:=hb (b,⟨z,true,l.map ty.c⟩) (by simp)
    obtain⟨hdn,hu⟩:=hd d rfl
    obtain⟨ei,hi2,hz2⟩:=zw.1 hi
    simp only[zJ] at hz2
    obtain⟨rfl,rfl⟩:=hz2
    have el:(((l.drop j).take m).map ty.c).map (·.map V.strip)=((l.drop j).take m).map ty.c:=by
      rw[wD]
      exact wB λy _=>by
        show (ty.c y).map V.strip=ty.c y
        rw[hs y];exact ty.st y
    have e1:((l.map ty.c).drop 0).take i=(l.take i).map ty.c:=by simp_all
    have e2:((l.map ty.c).drop j).take m=((l.drop j).take m).map ty.c:=by simp_all
    have hl1:(l.take i).length=i:=by simp;omega
    have hl2:((l.drop j).take m).length=m:=by simp;omega
    have hds:dstV st.b ei.size (.ref b 0 i)=some ⟨some b,0,ei.size,true,(l.take i).map ty.c⟩:=by
      unfold dstV
      grind
    have hss:srcV st.b ei.size (some b) (.ref b j m)=some ⟨none,0,ei.size,true,((l.drop j).take m).map ty.c⟩:=by
      unfold srcV
      grind
    have ha:appendV P st.b t t2 (.ref b 0 i) (.ref b j m)=some (⟨some b,0,ei.size,true,(l.take i).map ty.c⟩,⟨none,0,ei.size,true,((l.drop j).take m).map ty.c⟩,⟨ei.size,true,(l.take i).map ty.c++((l.drop j).take m).map ty.c⟩):=by
      unfold appendV
      simp only[ht,ht2,hi2,hds,hss,wj,hl1,hl2,h3,hby,hz,and_self,if_true]
    have:=effO_append' (P:=P) (G:=G) (o:=x) (st:=st) (x:=ox) (y:=oy) (t:=t) (t2:=t2) (d:=d) hop hdst hdn hu (hvs (ox,.ref b 0 i) (by simp)) (hvs (oy,.ref b j m) (by simp)) ha
    simp only[wj,<-wA] at this
    rw[<-wM] at this
    exact this
def Rule.appPart{α:Type}{ty:Ty α}{t t2 e e2:TypeId}{z bytes:Nat}(ox oy:Operand)(d:Nat)(dst:Option Nat)(exd:Bool)(lx:List α)(b off m:Nat)(ex:Bool)(l:List α)(ht:P.underlying t=some (.slice e))(ht2:P.underlying t2=some (.slice e2))
    (hi:(P.info? e).map (λi=>(i.size,i.bytes))=some (z,bytes)) (hby:0 < bytes) (hz:(zeroV P e).map List.length=some z) (hs:∀y,ty.c y=ty.d y) (_hne:dst≠some b) (hnil:dst=none->lx=[]/\exd=true):Rule P G Unit where
  op:=.call { callee:=.builtin .append,args:=#[ox,oy],argTypes:=#[t,t2] }
  dst:=some d
  vals:=[(ox,match dst with|none=>.nilsl|some bx=>.ref bx 0 lx.length),(oy,.ref b off m)]
  blks:=(match dst with|none=>[]|some bx=>[(bx,⟨z,exd,lx.map ty.c⟩)])++[(b,⟨z,ex,l.map ty.c⟩)]
  o:=bif decide (off+m<=l.length/\(lx.length+m) * bytes<=140737488355328) then some () else none
  ws:=λ_=>(match dst with|none=>[]|some bx=>[.b bx none])++[.b d (some ⟨z,exd,(lx++(l.drop off).take m).map ty.c⟩),.t d (.ref d 0 (lx++(l.drop off).take m).length)]
  dt:=[d]
  dat:=λ_ q k hm _=>by
    have key:=ty.data (lx++(l.drop off).take m)
    grind
  ok:=λ_ ho x st hop hdst hvs hb hd=>by
    have hc:off+m<=l.length/\(lx.length+m) * bytes<=140737488355328:=by
      grind
    obtain⟨h2,h3⟩:=hc
    have hbb:st.b b=some ⟨z,ex,l.map ty.c⟩:=hb (b,⟨z,ex,l.map ty.c⟩) (by simp)
    obtain⟨hdn,hu⟩:=hd d rfl
    obtain⟨ei,hi2,hz2⟩:=zw.1 hi
    simp only[zJ] at hz2
    obtain⟨rfl,rfl⟩:=hz2
    have el:(((l.drop off).take m).map ty.c).map (·.map V.strip)=((l.drop off).take m).map ty.c:=by
      rw[wD]
      exact wB λy _=>by
        show (ty.c y).map V.strip=ty.c y
        rw[hs y];exact ty.st y
    have e2:((l.map ty.c).drop off).take m=((l.drop off).take m).map ty.c:=by simp_all
    have hl2:((l.drop off).take m).length=m:=by simp;omega
    have hss:srcV st.b ei.size (some b) (.ref b off m)=some ⟨none,0,ei.size,true,((l.drop off).take m).map ty.c⟩:=by
      unfold srcV
      grind
    cases dst with
    | none=>
      obtain⟨rfl,rfl⟩:=hnil rfl
      have hds:dstV st.b ei.size .nilsl=some ⟨none,0,ei.size,true,[]⟩:=rfl
      have ha:appendW P st.b t t2 (λ_=>some b) .nilsl (.ref b off m)=some (⟨none,0,ei.size,true,[]⟩,⟨none,0,ei.size,true,((l.drop off).take m).map ty.c⟩,⟨ei.size,true,[]++((l.drop off).take m).map ty.c⟩):=by
        unfold appendW
        simp only[List.length_nil] at h3
        simp only[ht,ht2,hi2,hds,hss,wj,List.length_nil,hl2,h3,hby,hz,and_self,if_true]
      have:=effO_appendW (P:=P) (G:=G) (o:=x) (st:=st) (x:=ox) (y:=oy) (t:=t) (t2:=t2) (d:=d) hop hdst hdn hu (hvs (ox,.nilsl) (by simp)) (hvs (oy,.ref b off m) (by simp)) ha (λ_ h=>by simp at h)
      simp only[List.nil_append,List.length_nil,zX,wj] at this
      exact this
    | some bx=>
      have hbx:st.b bx=some ⟨ei.size,exd,lx.map ty.c⟩:=hb (bx,⟨ei.size,exd,lx.map ty.c⟩) (by simp)
      have e1:((lx.map ty.c).drop 0).take lx.length=lx.map ty.c:=by grind [List.length_map,List.take_length]
      have hds:dstV st.b ei.size (.ref bx 0 lx.length)=some ⟨some bx,0,ei.size,exd,lx.map ty.c⟩:=by
        unfold dstV
        grind
      have ha:appendW P st.b t t2 (λ_=>some b) (.ref bx 0 lx.length) (.ref b off m)=some (⟨some bx,0,ei.size,exd,lx.map ty.c⟩,⟨none,0,ei.size,true,((l.drop off).take m).map ty.c⟩,⟨ei.size,exd,lx.map ty.c++((l.drop off).take m).map ty.c⟩):=by
        unfold appendW
        simp only[ht,ht2,hi2,hds,hss,wj,hl2,h3,hby,hz,and_self,if_true]
      have:=effO_appendW (P:=P) (G:=G) (o:=x) (st:=st) (x:=ox) (y:=oy) (t:=t) (t2:=t2) (d:=d) hop hdst hdn hu (hvs (ox,.ref bx 0 lx.length) (by simp)) (hvs (oy,.ref b off m) (by simp)) ha (λ_ _ h=>by simp at h)
      simp only[wj,<-wA] at this
      rw[<-wM] at this
      exact this
def Rule.clear{α:Type}{ty:Ty α}{t e:TypeId}{z:Nat}(ox:Operand)(b off len:Nat)(l:List α)(y0:α)(ht:P.underlying t=some (.slice e))(hi:(P.info? e).map TypeInfo.size=some z)(hzero:zeroV P e=some (ty.c y0))
    (hy:(ty.c y0).length=z) (hs:∀y,ty.c y=ty.d y):Rule P G Unit where
  op:=.call { callee:=.builtin .clear,args:=#[ox],argTypes:=#[t] }
  dst:=none
  vals:=[(ox,.ref b off len)]
  blks:=[(b,⟨z,true,l.map ty.c⟩)]
  o:=some ()
  ws:=λ_=>[.b b (some ⟨z,true,(D6 l off (List.replicate len y0)).map ty.c⟩)]
  dt:=[b]
  dat:=λ_ q k hm _=>by
    simp only[we,Wr.b.injEq,zp] at hm
    obtain⟨_,rfl⟩:=hm
    exact ty.data _
  ok:=λ_ _ x st hop hdst hvs hb _=>W6 λγ a w hsim=>by
    have hbb:st.b b=some ⟨z,true,l.map ty.c⟩:=hb (b,⟨z,true,l.map ty.c⟩) (by simp)
    have rx:Rep γ w st.b st.u (.ref b off len) (a.eval ox):=hvs (ox,.ref b off len) (by simp) γ a w hsim
    obtain⟨ei,hi2,hz⟩:=zw.1 hi
    subst hz
    have hll:(l.map ty.c).length=l.length:=by simp
    have pre : execOp a.eval x = (do let v <- Builtin.clear_ #[t] x.type #[a.eval ox]; pure (.value v)) := by
      have h1:execOp a.eval x=builtin .clear #[t] x.type (#[ox].map fun|.const _=>true|_=>false) (#[ox].map a.eval):=by
        show (execOp a.eval x)=_;unfold execOp;rw[hop];rfl
      rw[h1];simp[builtin]
    have same:len=0->(Builtin.clear_ #[t] x.type #[a.eval ox]).run P w=.ok (.tuple #[]) w->∃v w' γ',(execOp a.eval x).run P w=.ok (.value v) w'/\Grow γ w γ' w'/\Pin γ st.b st.u γ' (st.app [.b b (some ⟨ei.size,true,(D6 l off (List.replicate len y0)).map ty.c⟩)]).b (st.app [.b b (some ⟨ei.size,true,(D6 l off (List.replicate len y0)).map ty.c⟩)]).u/\
        Sim G γ' (st.app [.b b (some ⟨ei.size,true,(D6 l off (List.replicate len y0)).map ty.c⟩)]) (a.put x.dst v).tmps w':=λh0 hr=>by
      subst h0
      have eo:D6 l off (List.replicate 0 y0)=l:=by simp[D6]
      rw[eo]
      have es:st.app [.b b (some ⟨ei.size,true,l.map ty.c⟩)]=st:=by
        show st.setB b _=st
        unfold St.setB
        cases st with
        | mk n t bb u=>
          simp only[St.mk.injEq,true_and]
          refine⟨funext λq=>?_,funext λq=>?_⟩
          · grind
          · split
            · rename_i e;subst e;exact(hsim.u q _ hbb).symm
            · rfl
      rw[es]
      exact⟨_,w,γ,by rw[pre,zM,hr,zQ];rfl,.refl γ w,.refl hsim.u,by rw[hdst];exact hsim⟩
    rcases rx.ref_inv hbb with⟨B,o,cap,hv,hl,hil,hcap,hroom,hM,hcp⟩|⟨B,hv,h0,_,_⟩|⟨hv,h0,_,_⟩
    · rcases wQ len with h0|hpos
      · simp_all [zE,Builtin.clear_]
      rcases hsim.b b _ hbb with⟨v1,_⟩|hm|⟨_,B',o',cs,e',h1,h2,h3,h4,h5,h6,h7,h8⟩
      · grind
      · exact(hm.small hM).elim
      rw[hl] at h1;simp only[zp,zJ] at h1
      obtain⟨rfl,rfl⟩:=h1
      simp only at hM hcp hil h4 h5 h6 h7 hv hroom
      rw[hll] at hil h5
      obtain⟨zv,hz1,hz2⟩:=run_zeroV (P:=P) (γ:=γ) (w:=w) (bs:=st.b) (u:=st.u) hzero
      have hzs:zv.cells.size=ei.size:=hz2.1.trans hy
      have hnl:(Builtin.zeroCells zv.cells len).toList.length=len * ei.size:=by simp[Builtin.zeroCells,hzs]
      have hg:∀q,q < len * ei.size->(Builtin.zeroCells zv.cells len).toList[q]?=zv.cells[q % ei.size]?:=(by grind [Nat.eq_zero_or_pos,Nat.mod_lt,Array.toList_map,Array.toList_range,List.getElem?_range,Builtin.zeroCells])
      have hcellz:∀(q:Nat) (c:V),(ty.c y0)[q]?=some c->∃v,zv.cells[q]?=some v/\Rep γ w st.b st.u c v/\v.oneCell'=true:=λq c hc=>by
        have hq:q < zv.cells.size:=by grind
        have hx:zv.cells[q]?=some zv.cells[q]:=(by grind)
        exact⟨_,hx,hz2.2 q c _ hc hx,(hz2.2 q c _ hc hx).isCell_one (dcell_isCell (zH.1 (ty.cd y0) c (zO hc)))⟩
      have hone:∀v,v∈(Builtin.zeroCells zv.cells len).toList->v.oneCell'=true:=λv hv=>by
        obtain⟨q,hq,rfl⟩:=List.getElem_of_mem hv
        have hq':q < len * ei.size:=by grind
        have hzp:0 < ei.size:=by
          grind
        have hm:=Nat.mod_lt q hzp
        obtain⟨v,v1,_,v3⟩:=hcellz (q % ei.size) _ (zR (by rw[hy];exact hm))
        grind
      have hle:(off+len) * ei.size<=l.length * ei.size:=wF _ hil
      rw[wv] at hle
      have hst:=A6 (P:=P) (B:=B) (o:=o+off * ei.size) (e:=e') (Builtin.zeroCells zv.cells len).toList 0 w cs h3 hone (by grind)
      have key:=hsim.putRows (r:=List.replicate len y0) (p:=off) (news:=(Builtin.zeroCells zv.cells len).toList) hbb hM hs hl h2 h3 h4 (by grind) h6 (h7 trivial) (by grind) (by rw[hnl];simp) (by grind) (λq c hc=>by
          have hzp:0 < ei.size:=by
            rcases wQ ei.size with h|h
            · simp_all
            · exact h
          have hrs:∀r,r∈(List.replicate len y0).map ty.c->r.length=ei.size:=(by grind)
          have eq:q=(q / ei.size) * ei.size+q % ei.size:=by rw[qc];exact(Nat.div_add_mod q ei.size).symm
          have hm:=Nat.mod_lt q hzp
          rw[eq,U1 _ hrs _ _ hm] at hc
          obtain⟨r,hr,hc2⟩:=zL.1 hc
          rw[zV,zw] at hr
          obtain⟨y,hy',rfl⟩:=hr
          have hql:q / ei.size < len:=by have:=(wm.1 hy').1;simpa using this
          have hyy:y=y0:=List.eq_of_mem_replicate (zO hy')
          subst hyy
          obtain⟨v,v1,v2,v3⟩:=hcellz _ c hc2
          have hqs:q < len * ei.size:=by
            have:(q / ei.size+1) * ei.size<=len * ei.size:=wF _ hql
            rw[wv] at this;omega
          exact⟨v,by rw[hg q hqs];exact v1,v2,v3⟩)
      refine⟨.tuple #[],_,γ,?_,key.2.1,key.2.2.pin,by rw[hdst];exact key.1⟩
      rw[pre,zM]
      have hne:len≠0:=by omega
      have:(Builtin.clear_ #[t] x.type #[a.eval ox]).run P w=.ok (.tuple #[]) (World.setBlk w B (M8 cs (o+off * ei.size+0) (Builtin.zeroCells zv.cells len).toList) e'):=by
        rw[hv]
        obtain⟨len',rfl⟩:∃len',len=len'+1:=⟨len - 1,by omega⟩
        simp[Builtin.clear_,zE ht,hz1,hst]
      rw[this,zQ]
      rfl
    · refine same h0 ?_
      rw[hv]
      simp[Builtin.clear_,zE ht]
    · refine same h0 ?_
      rw[hv]
      simp[Builtin.clear_,zE ht]
theorem effO_cut{x:Oper}{st:St}{t e:TypeId}{ei:TypeInfo}{ox ol oh:Operand}{om:Option Operand}{d b len lo hi:Nat}{k:Blk}{kl kh:IntKind}{vl vh:Int}{mx:Option V}(hop:x.op=.slice t ox (some ol) (some oh) om)(hdst:x.dst=some d)(hd:d < st.n)
  (ht:P.underlying t=some (.slice e)) (hi':P.info? e=some ei) (hz:k.size=ei.size) (hk:st.b b=some k) (hx:Evs G st ox (.ref b 0 len)) (hl:Evs G st ol (.int kl vl)) (hh:Evs G st oh (.int kh vh))
  (hm:match om,mx with|none,none=>True|some o,some c=>Evs G st o c|_,_=>False) (h1:hiR len k.rows.length (some (.int kh vh)) mx=some hi) (h2:loV (some (.int kl vl)) hi=some lo) :
  G1 P G x st (st.setT d (.ref b lo (hi - lo))):=by
 have:=D3 (P:=P) (G:=G) (o:=x) (st:=st) (c:=.ref b lo (hi - lo)) (by grind [H7]) λγ a w hs=>by
  have hsl:sliceV P st.b t (.ref b 0 len) (some (.int kl vl)) (some (.int kh vh)) mx=some (.ref b lo (hi - lo)):=by
   simp_all [if_true,Nat.sub_zero,zP,wu,zX,sliceV]
  have rm:RepO γ w st.b st.u mx (om.map a.eval):=by
   cases om with
   | none=>cases mx with
    | none=>trivial
    | some c=>exact hm.elim
   | some o=>cases mx with
    | none=>exact hm.elim
    | some c=>exact hm γ a w hs
  obtain⟨y,y1,y2⟩:=run_sliceV (P:=P) hsl (hx γ a w hs) (vlo:=some (a.eval ol)) (vhi:=some (a.eval oh)) (vmx:=om.map a.eval) (hl γ a w hs) (hh γ a w hs) rm
  simp_all [execOp]
 rw[hdst] at this
 exact this
def Rule.cap2{α:Type}{ty:Ty α}{t e:TypeId}{z:Nat}(ox ol oh:Operand)(d b len:Nat)(l:List α)(kl kh:IntKind)(vl vh:Int)(ht:P.underlying t=some (.slice e))(hi:(P.info? e).map TypeInfo.size=some z):Rule P G Unit where
 op:=.slice t ox (some ol) (some oh) none
 dst:=some d
 vals:=[(ox,.ref b 0 len),(ol,.int kl vl),(oh,.int kh vh)]
 blks:=[(b,⟨z,true,l.map ty.c⟩)]
 o:=bif decide (0<=vl/\vl<=vh/\vh<=l.length) then some () else none
 ws:=λ_=>[.t d (.ref b vl.toNat (vh.toNat - vl.toNat))]
 dt:=[]
 dat:=(by grind)
 ok:=λ_ ho x st hop hdst hvs hb hd=>by
  have hc:0<=vl/\vl<=vh/\vh<=l.length:=by
   grind
  obtain⟨ei,hi,hz⟩:=zw.1 hi
  exact effO_cut (om:=none) (mx:=none) hop hdst (hd d rfl).1 ht hi hz.symm (hb (b,⟨z,true,l.map ty.c⟩) (by simp)) (hvs (ox,.ref b 0 len) (by simp)) (hvs (ol,.int kl vl) (by simp)) (hvs (oh,.int kh vh) (by simp)) trivial
   (by unfold hiR;grind) (by unfold loV;grind)
def Rule.cap3{α:Type}{ty:Ty α}{t e:TypeId}{z:Nat}(ox ol oh om:Operand)(d b len:Nat)(l:List α)(kl kh km:IntKind)(vl vh vm:Int)(ht:P.underlying t=some (.slice e))(hi:(P.info? e).map TypeInfo.size=some z):Rule P G Unit where
 op:=.slice t ox (some ol) (some oh) (some om)
 dst:=some d
 vals:=[(ox,.ref b 0 len),(ol,.int kl vl),(oh,.int kh vh),(om,.int km vm)]
 blks:=[(b,⟨z,true,l.map ty.c⟩)]
 o:=bif decide (0<=vl/\vl<=vh/\vh<=vm/\vm=l.length) then some () else none
 ws:=λ_=>[.t d (.ref b vl.toNat (vh.toNat - vl.toNat))]
 dt:=[]
 dat:=(by grind)
 ok:=λ_ ho x st hop hdst hvs hb hd=>by
  have hc:0<=vl/\vl<=vh/\vh<=vm/\vm=l.length:=by
   grind
  obtain⟨ei,hi,hz⟩:=zw.1 hi
  exact effO_cut (om:=some om) (mx:=some (.int km vm)) hop hdst (hd d rfl).1 ht hi hz.symm (hb (b,⟨z,true,l.map ty.c⟩) (by simp)) (hvs (ox,.ref b 0 len) (by simp)) (hvs (ol,.int kl vl) (by simp)) (hvs (oh,.int kh vh) (by simp)) (hvs (om,.int km vm) (by simp))
   (by unfold hiR;grind) (by unfold loV;grind)
end
theorem CallC.trim{P:Program}{G:zd}{f:FuncId}{args:List V}{ins:ze}{d m:Nat}{k:Blk}(h:CallC P G f args ins (.ref d 0 m) (ofL [(d,k)]))(hd:d < 1000000)(hx:k.excl=true)(hm:m<=k.rows.length)
  (hdat:∀r,r∈k.rows->∀c,c∈r->H2 c=true/\c.isOwn=false) :
  CallC P G f args ins (.ref d 0 m) (ofL [(d,⟨k.size,k.excl,k.rows.take m⟩)]):=λγ w vs hg ho ha hb=>by
 refine(h γ w vs hg ho ha hb).mono λe w' hq=>?_
 obtain⟨v,γ',rfl,hg,hpin,hr,hbo,hown⟩:=hq
 have e1:ofL [(d,k)] d=some k:=by simp[ofL]
 have e2:ofL [(d,(⟨k.size,k.excl,k.rows.take m⟩:Blk))] d=some ⟨k.size,k.excl,k.rows.take m⟩:=by simp[ofL]
 have e3:∀b,b≠d->ofL [(d,k)] b=none/\ofL [(d,(⟨k.size,k.excl,k.rows.take m⟩:Blk))] b=none:=(by grind [ofL])
 have hlen:(k.rows.take m).length=m:=by simp;omega
 have hdata:∀(c:V) (v:Value),H2 c=true->Rep γ' w' (ofL [(d,k)]) (λ_=>true) c v->Rep γ' w' (ofL [(d,(⟨k.size,k.excl,k.rows.take m⟩:Blk))]) (λ_=>true) c v:=λc v hc hr=>.data (dcell_data hc hr)
 refine⟨v,γ',rfl,hg,λb hb'=>?_,?_,λb q hq=>?_,hown⟩
 ·obtain⟨p1,p2,p3⟩:=hpin b hb'
  have hne:b≠d:=λe=>by have:=uPin_le (b:=b) (by assumption);omega
  grind
 ·rcases hr.ref_inv e1 with⟨B,o,cap,rfl,hl,hil,hcap,hroom,hM,hcp⟩|⟨B,rfl,rfl,h0,hM⟩|⟨rfl,rfl,h0,hM⟩
  ·have:=Rep.ref (γ:=γ') (w:=w') (bs:=ofL [(d,(⟨k.size,k.excl,k.rows.take m⟩:Blk))]) (u:=λ_=>true) d 0 m B o cap ⟨k.size,k.excl,k.rows.take m⟩ e2 hl (by grind) hcap hroom hM (by grind)
   exact this
  ·exact .refE d 0 B ⟨k.size,k.excl,k.rows.take 0⟩ e2 hM (by simp)
  ·exact .refN d 0 ⟨k.size,k.excl,k.rows.take 0⟩ e2 hM (by simp)
 ·by_cases hbd:b=d
  ·subst hbd
   rw[e2] at hq
   simp only[zp] at hq
   subst hq
   rcases hbo b k e1 with⟨v1,v2⟩|hmp|⟨hM,B,o,cs,e,a1,a2,a3,a4,a5,a6,a7,a8⟩
   ·exact .inl ⟨v1,by simp[v2]⟩
   ·rcases hr.ref_inv e1 with⟨_,_,_,_,_,_,_,_,hM,_⟩|⟨_,_,_,_,hM⟩|⟨_,_,_,hM⟩<;>exact(hmp.small hM).elim
   ·have hle:m * k.size<=k.rows.length * k.size:=wF _ hm
    refine .inr (.inr ⟨hM,B,o,cs,e,a1,a2,a3,(by grind),by grind,λi c hc=>?_,a7,by grind⟩)
    have hc':k.rows.flatten[i]?=some c:=by
     have:=P5 k.rows a4 0 m i c (by simpa using hc)
     grind
    obtain⟨y,b1,b2,b3,_⟩:=a6 i c hc'
    obtain⟨r,r1,r2⟩:=wN.1 (zO hc')
    grind
  grind
noncomputable def Spec.trim{P:Program}{G:zd}{α:Type}(s:Spec P G (List α×Nat))(ty:Ty α)(d z:Nat)(hd:d < 1000000)(hs:∀y,ty.c y=ty.d y)(hr:∀r,s.res r=.ref d 0 r.2)(ho:∀r,s.outs r=[(d,⟨z,true,r.1.map ty.c⟩)]):Spec P G (List α) where
  f:=s.f
  args:=s.args
  ins:=s.ins
  o:=match s.o with|some r=>bif decide (r.2<=r.1.length) then some (r.1.take r.2) else none|none=>none
  res:=λl=>.ref d 0 l.length
  outs:=λl=>[(d,⟨z,true,l.map ty.c⟩)]
  dt:=[d]
  dat:=λ_ p hp _=>by rw[we.1 hp];exact ty.data _
  ok:=λl hl=>by
    split at hl
    · rename_i r hso
      cases hc:decide (r.2<=r.1.length) with
      | false=>grind
      | true=>
        rw[hc] at hl
        simp only[cond_true,zp] at hl
        subst hl
        have hc:r.2<=r.1.length:=by simpa using hc
        have h:=s.ok r hso
        rw[hr,ho] at h
        have k:=h.trim (m:=r.2) hd rfl (by simpa using hc) λq hq c hcq=>by
          obtain⟨y,_,rfl⟩:=zF.1 hq
          exact⟨zH.1 (ty.cd y) c hcq,Ty.notOwn hs y hcq⟩
        grind [List.map_take]
    · simp at hl
def Rule.makeNums{P:Program}{G:zd}{ty:Ty Int}{t e:TypeId}{k:IntKind}(ol oc:Operand)(d n:Nat)(by_:Nat)(ht:P.underlying t=some (.slice e))
    (hi:(P.info? e).map (λi=>(i.size,i.bytes))=some (1,by_)) (hz:(P.info? e).bind TypeInfo.zero=some (.int k 0)) (hb:by_ * n<=281474976710656/\n<=9223372036854775807) (hc:∀x,ty.c x=[.int k x]):Rule P G Unit where
  op:=.makeSlice t ol oc
  dst:=some d
  vals:=[(ol,.int .i64 (n:Int)),(oc,.int .i64 (n:Int))]
  blks:=[]
  o:=some ()
  ws:=λ_=>[.b d (some ⟨1,true,(List.replicate n (0:Int)).map ty.c⟩),.t d (.ref d 0 n)]
  dt:=[d]
  dat:=λ_ i k h _=>by
    simp only[zT,Wr.b.injEq,zp,reduceCtorEq,wg,or_false] at h
    rw[h.2];exact ty.data _
  ok:=λ_ _ x st hop hdst hvs _ hd=>W6 λγ a w hs=>by
    obtain⟨h1,h2⟩:=hd d rfl
    obtain⟨i,hi1,hi2⟩:=zw.1 hi
    simp only[zJ] at hi2
    obtain⟨s1,s2⟩:=hi2
    have hz':i.zero=some (.int k 0):=by grind
    have e1:a.eval ol=.int .i64 (n:Int):=(hvs (ol,.int .i64 (n:Int)) (by simp) γ a w hs).int_inv
    have e2:a.eval oc=.int .i64 (n:Int):=(hvs (oc,.int .i64 (n:Int)) (by simp) γ a w hs).int_inv
    have hrun:=run_make (P:=P) w t e i (.int k 0) ht hi1 hz' .i64 .i64 (n:Int) (n:Int) (by omega) (by omega) (by rw[s2];have:=hb.1;omega) (by omega)
    have hrows:(List.replicate n (0:Int)).map ty.c=List.replicate n [V.int k 0]:=by simp_all
    have hcell:∀j (c:V),((List.replicate n (0:Int)).map ty.c).flatten[j]?=some c->j < n/\c=.int k 0:=λj c hj=>by
      simp_all [List.replicate_succ,List.flatten_cons,wm,wW,List.getElem_replicate,List.replicate]
    have sz:(madeCells (Value.int k 0).cells ((n:Int).toNat * i.size)).size=n:=by rw[size_madeCells,s1];simp
    have key:=hs.newBlk (d:=d) (size:=1) (rows:=(List.replicate n (0:Int)).map ty.c) (cs:=madeCells (Value.int k 0).cells ((n:Int).toNat * i.size)) (e:=e) (w1:={ w with heap:=w.heap.push (.cells (madeCells (Value.int k 0).cells ((n:Int).toNat * i.size)) e) }) (by decide) h2 rfl ⟨rfl,rfl,rfl⟩
      (by grind) (by rw[sz];simp) (λj c hj=>by
        obtain⟨j1,rfl⟩:=hcell j c hj
        refine⟨.int k 0,?_,.data (.int k 0),rfl,rfl⟩
        unfold madeCells
        rw[Array.getElem?_map]
        have hlt:j < (n:Int).toNat * i.size:=by grind
        have:(Array.range ((n:Int).toNat * i.size))[j]?=some j:=by grind
        rw[this]
        have hcs:(Value.int k 0).cells=#[.int k 0]:=rfl
        grind)
    refine⟨.slice (some ⟨w.heap.size,0,none⟩) n n,_,γ.add d w.heap.size,?_,key.2.1,key.2.2.pin,?_⟩
    · have e3 : (execOp a.eval x) = (do let v <- Instr.makeSlice t (a.eval ol) (a.eval oc); pure (.value v) : Sem Next) := by unfold execOp; rw [hop]
      simp_all
    · rw[hdst]
      have hb':=key.1.put (a:=a) (dst:=some d) (c:=.ref d 0 n) (v:=.slice (some ⟨w.heap.size,0,none⟩) n n) (by simpa[H7,St.setB] using h1) (by
        have:=Rep.ref (γ:=γ.add d w.heap.size) (w:={ w with heap:=w.heap.push (.cells (madeCells (Value.int k 0).cells ((n:Int).toNat * i.size)) e) }) (bs:=(st.setB d ⟨1,true,(List.replicate n (0:Int)).map ty.c⟩).b) (u:=(st.setB d ⟨1,true,(List.replicate n (0:Int)).map ty.c⟩).u)
          d 0 n w.heap.size 0 n ⟨1,true,(List.replicate n (0:Int)).map ty.c⟩ (by simp[St.setB]) (by simp[Gh.add]) (by simp) (zD _) ⟨madeCells (Value.int k 0).cells ((n:Int).toNat * i.size),e,(0,0),Array.getElem?_push_size,by rw[sz];simp⟩ (by show 1 < J8;decide) (by simp)
        grind)
      exact hb'
def Rule.makeD{P:Program}{G:zd}{α:Type}{ty:Ty α}{t e:TypeId}{zv:Value}{zc:V}(a0:α)(ol oc:Operand)(d:Nat)(n m:Int)(by_:Nat)(ht:P.underlying t=some (.slice e))
    (hi:(P.info? e).map (λi=>(i.size,i.bytes))=some (1,by_)) (hz:(P.info? e).bind TypeInfo.zero=some zv) (hc:ty.c a0=[zc]) (hzc:zv.cells=#[zv]/\zv.oneCell'=true/\zc.isOwn=false) (hrep:∀lim w,K7 lim w zc zv):Rule P G Unit where
  op:=.makeSlice t ol oc
  dst:=some d
  vals:=[(ol,.int .i64 n),(oc,.int .i64 m)]
  blks:=[]
  o:=bif decide (0<=n)&&decide (n<=m)&&decide (by_ * m.toNat<=281474976710656)&&decide (m<=9223372036854775807) then some () else none
  ws:=λ_=>[.b d (some ⟨1,true,(List.replicate n.toNat a0).map ty.c⟩),.t d (.ref d 0 n.toNat)]
  dt:=[d]
  dat:=λ_ i k h _=>by
    simp only[zT,Wr.b.injEq,zp,reduceCtorEq,wg,or_false] at h
    rw[h.2];exact ty.data _
  ok:=λr ho x st hop hdst hvs hbs hd=>W6 λγ a w hs=>by
    have hc3:(decide (0<=n)&&decide (n<=m)&&decide (by_ * m.toNat<=281474976710656)&&decide (m<=9223372036854775807))=true:=by
      grind
    simp only[zC,zG] at hc3
    obtain⟨⟨⟨c0,c1⟩,c2⟩,c3⟩:=hc3
    obtain⟨N,rfl⟩:=Int.eq_ofNat_of_zero_le c0
    obtain⟨M,rfl⟩:=Int.eq_ofNat_of_zero_le (Int.le_trans c0 c1)
    simp only[zN] at *
    have hNM:N<=M:=by omega
    obtain⟨h1,h2⟩:=hd d rfl
    obtain⟨i,hi1,hi2⟩:=zw.1 hi
    simp only[zJ] at hi2
    obtain⟨s1,s2⟩:=hi2
    have hz':i.zero=some zv:=by grind
    have e1:a.eval ol=.int .i64 (N:Int):=(hvs (ol,.int .i64 (N:Int)) (by simp) γ a w hs).int_inv
    have e2:a.eval oc=.int .i64 (M:Int):=(hvs (oc,.int .i64 (M:Int)) (by simp) γ a w hs).int_inv
    have hrun:=run_make (P:=P) w t e i zv ht hi1 hz' .i64 .i64 (N:Int) (M:Int) (by omega) (by omega) (by rw[s2];omega) (by omega)
    simp only[zN] at hrun
    have hrows:(List.replicate N a0).map ty.c=List.replicate N [zc]:=by simp_all
    have hcell:∀j (c:V),((List.replicate N a0).map ty.c).flatten[j]?=some c->j < N/\c=zc:=λj c hj=>by
      simp_all [List.replicate_succ,List.flatten_cons,wm,wW,List.getElem_replicate,List.replicate]
    have sz:(madeCells zv.cells (M * i.size)).size=M:=by rw[size_madeCells,s1];simp
    have key:=hs.newBlk (d:=d) (size:=1) (rows:=(List.replicate N a0).map ty.c) (cs:=madeCells zv.cells (M * i.size)) (e:=e) (w1:={ w with heap:=w.heap.push (.cells (madeCells zv.cells (M * i.size)) e) }) (by decide) h2 rfl ⟨rfl,rfl,rfl⟩
      (by grind) (by grind) (λj c hj=>by
        obtain⟨j1,rfl⟩:=hcell j c hj
        refine⟨zv,?_,.data (hrep _ _),hzc.2.1,hzc.2.2⟩
        unfold madeCells
        grind)
    refine⟨.slice (some ⟨w.heap.size,0,none⟩) N M,_,γ.add d w.heap.size,?_,key.2.1,key.2.2.pin,?_⟩
    · have e3 : (execOp a.eval x) = (do let v <- Instr.makeSlice t (a.eval ol) (a.eval oc); pure (.value v) : Sem Next) := by unfold execOp; rw [hop]
      simp_all
    · rw[hdst]
      have hb':=key.1.put (a:=a) (dst:=some d) (c:=.ref d 0 N) (v:=.slice (some ⟨w.heap.size,0,none⟩) N M) (by simpa[H7,St.setB] using h1) (by
        have:=Rep.ref (γ:=γ.add d w.heap.size) (w:={ w with heap:=w.heap.push (.cells (madeCells zv.cells (M * i.size)) e) }) (bs:=(st.setB d ⟨1,true,(List.replicate N a0).map ty.c⟩).b) (u:=(st.setB d ⟨1,true,(List.replicate N a0).map ty.c⟩).u)
          d 0 N w.heap.size 0 M ⟨1,true,(List.replicate N a0).map ty.c⟩ (by simp[St.setB]) (by simp[Gh.add]) (by simp) hNM ⟨madeCells zv.cells (M * i.size),e,(0,0),Array.getElem?_push_size,by rw[sz];simp⟩ (by show 1 < J8;decide) (by grind)
        grind)
      exact hb'
theorem rowsN_map{ty:Ty Int}(hc:∀x,ty.c x=[.int .u8 x]):∀l:List Int,rowsN (l.map ty.c)=some l
 | []=>rfl
 | x :: l=>by
  simp only[zW,rowsN,hc,rowN,rowsN_map hc l]
def Rule.textOf{P:Program}{G:zd}{ty:Ty Int}{s t e:TypeId}(ox:Operand)(d b:Nat)(l:List Int)(n:Nat)(hs:P.underlying s=some (.slice e))(ht:P.underlying t=some .string)(he:P.underlying e=some (.int .u8))(hn:l.length=n)(hc:∀x,ty.c x=[.int .u8 x]):Rule P G Unit where
 op:=.convert s t ox
 dst:=some d
 vals:=[(ox,.ref b 0 n)]
 blks:=[(b,⟨1,true,l.map ty.c⟩)]
 o:=some ()
 ws:=λ_=>[.t d (.str (strOfNums l))]
 dt:=[]
 dat:=(by grind)
 ok:=λ_ _ x st hop hdst hvs hb hd=>W6 λγ a w hs'=>by
  have hx:=hvs (ox,.ref b 0 n) (by simp) γ a w hs'
  have hk:=hb (b,⟨1,true,l.map ty.c⟩) (by simp)
  have hcv:convL P st.b s t (.ref b 0 n)=some (.str (strOfNums l)):=by
   simp only[convL,hs,ht,he,hk]
   rw[if_pos ⟨trivial,by simp[hn]⟩,List.drop_zero,<-hn,<-wj (f:=ty.c),List.take_length,rowsN_map hc]
   rfl
  obtain⟨v,h1,h2⟩:=run_convL hs' hcv hx
  refine⟨v,w,γ,?_,.refl γ w,.refl hs'.u,?_⟩
  ·have e3 : (execOp a.eval x) = (do let v <- convert s t (a.eval ox); pure (.value v) : Sem Next) := by unfold execOp; rw [hop]
   simp_all
  ·rw[hdst]
   exact hs'.put (a:=a) (dst:=some d) (by simpa[H7] using(hd d rfl).1) h2
theorem evs_vals{G:zd}{γ:Gh}{st:St}{a:Act}{w:World}(hs:Sim G γ st a.tmps w):∀(xs:List Operand) (vs:List V),xs.length=vs.length->(∀p,p∈xs.zip vs->Evs G st p.1 p.2)->
  U3 γ w st.b st.u vs (xs.map a.eval).toArray
 | [],[],_,_=>⟨rfl,(by grind)⟩
 | x :: xs,v :: vs,hl,h=>by
  have ih:=evs_vals hs xs vs (by simpa using hl) λp hp=>h p (by simp[hp])
  refine⟨by grind,λi c y hc hy=>?_⟩
  cases i with
  | zero=>
   simp at hc hy
   subst hc;subst hy
   exact h (x,v) (by simp) γ a w hs
  | succ i=>exact ih.2 i c y (by simpa using hc) (by simpa using hy)
 | [],_ :: _,hl,_=>by simp at hl
 | _ :: _,[],hl,_=>by simp at hl
abbrev CB:=Nat×Nat×Blk
def cbOf(lits:List CB)(typs:List (Nat×BT)):List CB:=lits++typs.map λy=>(y.1,y.2.id,y.2.k)
def Rule.callRead{P:Program}{G:zd}{α:Type}(S:Spec P G α)(x:Operand)(xs:Array Operand)(ts:Array TypeId)(d:Nat)(first vs caps:List V)(lits:List CB)(typs:List (Nat×BT))(Li:List (Nat×Nat))
    (hLi:(cbOf lits typs).map (λy=>(y.1,y.2.1))=Li) (hids:idsOk Li [] []=true) (hxs:xs.toList.length=vs.length)
    (hfn:(P.funcs[S.f]?).any (λfn=>!(fn.name== "runtime.NumGoroutine")&&fn.body.isSome)=true)
    (hargs:G3 (Y3 Li) (first++vs++caps)=S.args) (hra:(W1 (first++vs++caps)).all (λb=>Li.any λy=>y.2==b)=true)
    (hins:lits.map (λy=>(y.1,y.2.2.ren (Y3 Li)))++typs.map (λy=>(y.1,y.2.k))=S.ins)
    (hrl:(lits.all λy=>(W1 y.2.2.rows.flatten).all λb=>Li.any λz=>z.2==b)=true) (hrc:(lits.all λy=>(W1 (y.2.2.ren (Y3 Li)).rows.flatten).all λb=>Li.any λz=>z.1==b)=true)
    (hback:lits.map (λy=>(y.2.2.ren (Y3 Li)).ren (Y9 Li))=lits.map (·.2.2)) (houts:∀r,S.outs r=S.ins) (hres:∀r,W5 (Y9 Li) (S.res r)=S.res r/\U8 (S.res r)=[]):Rule P G α where
  op:=.call { callee:=.value x,args:=xs,argTypes:=ts }
  dst:=some d
  vals:=(x,.fn S.f first caps) :: xs.toList.zip vs
  blks:=(cbOf lits typs).map (·.2)
  o:=S.o
  ws:=λr=>[.t d (S.res r)]
  dt:=[]
  dat:=(by grind)
  ok:=λq ho o st hop hdst hvs hbs hd=>by
    obtain⟨hdn,_⟩:=hd d rfl
    obtain⟨fn,hf,hf2⟩:∃fn,P.funcs[S.f]?=some fn/\(!(fn.name== "runtime.NumGoroutine")&&fn.body.isSome)=true:=by
      grind
    simp only[zC,wi] at hf2
    have hnone:fn.body.isNone=false:=by simp_all
    simp only[idsOk,wE,zC,zH,beq_iff_eq,zG,wi] at hids
    obtain⟨⟨⟨i1,i2⟩,i3⟩,i4⟩:=hids
    have cr:∀y,y∈Li->Y9 Li y.1=y.2:=λy hy=>(i1 y hy).1.1
    have ce:∀y,y∈Li->Y3 Li y.2=y.1:=λy hy=>(i1 y hy).1.2
    have memAny:∀{c:Nat},(Li.any λy=>y.1==c)=true->∃y,y∈Li/\y.1=c:=(by grind)
    have memAny2:∀{c:Nat},(Li.any λy=>y.2==c)=true->∃y,y∈Li/\y.2=c:=(by grind)
    have anyMem:∀{y:Nat×Nat},y∈Li->(Li.any λz=>z.1==y.1)=true:=(by grind)
    have hins2:S.ins=(cbOf lits typs).map λy=>(y.1,y.2.2.ren (Y3 Li)):=by
      rw[<-hins,cbOf,wA,wD]
      congr 1
      exact wB λy _=>by show (y.1,y.2.k)=(y.1,y.2.k.ren (Y3 Li));rw[y.2.dat.ren]
    have blk:∀y,y∈Li->∃z,z∈cbOf lits typs/\z.1=y.1/\z.2.1=y.2:=(by grind)
    have inLi:∀z,z∈cbOf lits typs->(z.1,z.2.1)∈Li:=(by grind)
    have same:∀z z',z∈cbOf lits typs->z'∈cbOf lits typs->z.1=z'.1->st.b z.2.1=st.b z'.2.1:=(by grind)
    have hb:∀z,z∈cbOf lits typs->st.b z.2.1=some z.2.2:=λz hz=>(by grind)
    have hofL:∀z,z∈cbOf lits typs->ofL S.ins z.1=some (z.2.2.ren (Y3 Li)):=λz hz=>by
      rw[hins2]
      unfold ofL
      cases hf:((cbOf lits typs).map λy=>(y.1,y.2.2.ren (Y3 Li))).find? (λx=>x.1==z.1) with
      | none=>
        have:=List.find?_eq_none.1 hf (z.1,z.2.2.ren (Y3 Li)) (by grind)
        simp at this
      | some p=>
        grind
    have hback2:∀z,z∈cbOf lits typs->(z.2.2.ren (Y3 Li)).ren (Y9 Li)=z.2.2:=λz hz=>by
      rcases zU.1 hz with h|h
      · grind [List.map_inj_left]
      · obtain⟨y,_,rfl⟩:=zF.1 h
        show (y.2.k.ren _).ren _=y.2.k
        rw[y.2.dat.ren,y.2.dat.ren]
    have hrl2:∀z,z∈cbOf lits typs->∀b,b∈W1 z.2.2.rows.flatten->(Li.any λy=>y.2==b)=true:=λz hz b hm=>by
      rcases zU.1 hz with h|h
      · grind
      · obtain⟨y,_,rfl⟩:=zF.1 h
        rw[y.2.dat.refs] at hm;simp at hm
    have hrc2:∀z,z∈cbOf lits typs->∀b,b∈W1 (z.2.2.ren (Y3 Li)).rows.flatten->(Li.any λy=>y.1==b)=true:=λz hz b hm=>by
      rcases zU.1 hz with h|h
      · grind
      · obtain⟨y,_,rfl⟩:=zF.1 h
        have hm':b∈W1 (y.2.k.ren (Y3 Li)).rows.flatten:=hm
        rw[y.2.dat.ren,y.2.dat.refs] at hm';simp at hm'
    intro fx γ a w hs had next Q hn
    have key:=effO_callS (P:=P) (G:=G) (o:=o) (st0:=st) (st:=st) (f:=S.f) (cs:=first++vs++caps) (res:=S.res q) (ins:=ofL S.ins) (outs:=ofL (S.outs q)) (K:=λc=>Li.any λy=>y.1==c) (Kin:=λc=>Li.any λy=>y.1==c) (Y9 Li) (Y3 Li)
      (λγ a w hsim=>by
        have hx:=hvs (x,.fn S.f first caps) (by simp) γ a w hsim
        obtain⟨fs,cv,hv,l1,l2,p1,p2⟩:=hx.fn_inv
        have hm:=evs_vals hsim xs.toList vs hxs λp hp=>hvs p (by simp[hp])
        have k:(xs.toList.map a.eval).toArray=xs.map a.eval:=(by grind)
        rw[k] at hm
        exact⟨γ,_,hsim,.refl γ w,.refl hsim.u,run_call hop hv hf hf2.1 hnone,(U3.append (U3.append ⟨by simpa using l1,(by grind)⟩ hm) ⟨by simpa using l2,(by grind)⟩)⟩)
      (by grind)
      (by grind)
      (λc hK=>by
        obtain⟨y,hy,rfl⟩:=memAny hK
        obtain⟨z,hz,z1,z2⟩:=blk y hy
        grind)
      (by grind [O5,Prod.mk.injEq,ofL])
      (by grind)
      (λc k hk=>by
        rw[houts] at hk
        have:=O5 hk
        rw[hins2] at this
        obtain⟨z,hz,e⟩:=zF.1 this
        grind)
      (by grind)
      (by grind)
      (by rw[hargs];exact S.ok q ho) (by grind [H7])
    have hst:st.after (λj=>(Li.any λy=>y.1==Y3 Li j)&&(Y9 Li (Y3 Li j)==j)) (Y3 Li) (Y9 Li) (ofL (S.outs q))=st:=by
      refine St.ext' rfl λl=>?_
      cases l with
      | t i=>exact rfl
      | b j=>
        cases hJ:((Li.any λy=>y.1==Y3 Li j)&&(Y9 Li (Y3 Li j)==j)) with
        | false=>exact⟨by grind [St.after],by grind [St.after]⟩
        | true=>
          have hJ':=hJ
          simp only[zC,beq_iff_eq] at hJ'
          obtain⟨y,hy,e⟩:=memAny hJ'.1
          obtain⟨z,hz,z1,z2⟩:=blk y hy
          have ej:z.2.1=j:=by grind
          have hbz:=hb z hz
          rw[ej] at hbz
          refine⟨?_,?_⟩
          · simp only[St.after,hJ,if_true]
            grind
          · simp only[St.after,hJ,Bool.true_or]
            exact(hs.u j _ hbz).symm
    rw[hst,(hres q).1] at key
    refine key fx γ a w hs had next Q λa' w' γ' h1 h2 h3 h4=>hn a' w' γ' ?_ h2 ?_ h4
    · rw[hdst] at h1;exact h1
    · rw[hdst] at h3;exact h3
section
variable {P:Program} {G:zd}
theorem range_lawF{g:Operand}{L:YL}{bs:ze}{f:FuncId}{fi:Func}{c:Code}{first caps:List V}{R Rp:Exit->(ze)->Prop}{Q:Exit->St->Prop}
  (hg:(E1 L.n L.t bs).ev G g=some (.fn f first caps)) (ht:∀i,okV I9 (L.t i)=true) (hf:P.funcs[f]?=some fi) (hb:fi.body=some c) (hname:(fi.name== "runtime.NumGoroutine")=false) (hres:fi.results=#[])
  (hi:IterP P G c (max fi.ntmps (first.length+1+caps.length)) (λl=>first++.yld l :: caps) bs L R Rp)
  (hR:∀e b',R e b'->(e=.normal\/e=.ret\/∃id,e=.exit id)/\Q e (E1 L.n L.t b')) (hp:∀e b',Rp e b'->Q e (E1 L.n L.t b')):TV P G (.rangeFunc g L.ps L.assign L.body) (E1 L.n L.t bs) Q:=λfx γ a w hs hx=>by
 refine wpIn_rangeFunc λfn _=>?_
 obtain⟨fs,cv,hv,l1,l2,p1,p2⟩:=(hs.ev hg).fn_inv
 obtain⟨l,D,Ds,w1,hrun,hnd,hL,gw,hown,hlo,hdf⟩:=enter_law (P:=P) (L:=L) fn hs hx
 have env:Env G L γ w bs l D Ds w1.heap.size a.tmps (X6 fn a.tmps L.ps L.assign L.body D .normal) γ bs uTop w1:=
  ⟨hs,gw.1,Pin.refl hs.u,hL,hown,(by grind),hdf⟩
 have hbody':¬fi.body=none:=by rw[hb];simp
 have hname':¬fi.name= "runtime.NumGoroutine":=by grind
 refine⟨l,Ds.map markD,w1,{ target:=.fn (.func f) cv.toArray,args:=fs.toArray++#[Value.func (Fn.yield l) #[] #[]] },w1,f,fs.toArray++#[Value.func (Fn.yield l) #[] #[]]++cv.toArray,w1,hrun,?_,λ_ _=>trivial,?_,(by grind [RF,Fence.wide]),?_⟩
 ·simp_all [resolve,rangeCall,Deferred.ofValue,Act.eval]
 ·simp_all [invoke,callFunc]
 ·refine calls_in ((callsIn_wide (n:=0)).1 (callsIn_of_wp_marks hf hb trivial ?_))
  have key:=hi fn γ w bs l D Ds w1.heap.size a.tmps γ
   { tmps:=(fs.toArray++#[Value.func (Fn.yield l) #[] #[]]++cv.toArray)++Array.replicate (fi.ntmps - (fs.toArray++#[Value.func (Fn.yield l) #[] #[]]++cv.toArray).size) undef,defers:=[] } w1 env ?_ rfl
  ·refine wpIn_mono key λe a' w' h=>?_
   obtain⟨e2,b',γ',ni,ti,tm,h3,h4,h5,Es,k1,k2,k3⟩:=h
   have inv:∀E w'',E∈Es->(Env G L γ w bs l D Ds w1.heap.size a.tmps (X6 fn a.tmps L.ps L.assign L.body D e2) γ' b' uTop w''/\Sim G γ' (E1 ni ti b') tm w'')->w''.heap[E]?=some (.deferred (some []))->
     Env G L γ w bs l D Ds w1.heap.size a.tmps (X6 fn a.tmps L.ps L.assign L.body D e2) γ' b' uTop (w''.putObj E (.deferred none))/\Sim G γ' (E1 ni ti b') tm (w''.putObj E (.deferred none)):=λE w'' hE hI hd=>
    ⟨hI.1.put hd rfl (by grind) (by grind) (by grind),(Y5.put hd rfl).sim hI.2⟩
   have lift:∀{r w3},Env G L γ w bs l D Ds w1.heap.size a.tmps r γ' b' uTop w3->Sim G γ' (E1 ni ti b') tm w3->∀e3 a3,a3.tmps=a.tmps->a3.defers=Ds.map markD++a.defers->Q e3 (E1 L.n L.t b')->L6 G fx γ (E1 L.n L.t bs) w Q e3 a3 w3:=λ{r w3} h6 h5 e3 a3 e1 e2 hq=>
    ⟨E1 L.n L.t b',γ',by rw[e1];exact h6.sim0.resume ht h6.grow h6.pin h5,⟨h6.grow,h6.pin⟩,⟨Ds,λh=>by rw[hx.2.1] at h;simp at h,by rw[e2,hx.1],hnd,λE hE=>by
     obtain⟨d1,d2,d3,_⟩:=h6.dfr E hE
     grind⟩,hq⟩
   rcases h3 with⟨h1,h3⟩|⟨⟨ch,rfl⟩,h3⟩
   rotate_left
   ·show LeavesInM (RF none) 0 P fi a'.tmps _ a'.defers (.panicking ch) w'
    rw[k1,<-wE (Es.map markD)]
    refine C4 (by simp) (λw''=>Env G L γ w bs l D Ds w1.heap.size a.tmps (X6 fn a.tmps L.ps L.assign L.body D e2) γ' b' uTop w''/\Sim G γ' (E1 ni ti b') tm w'')
     (λw'' hI=>?_) Es w' ⟨h4,h5⟩ k2 (λE hE=>(k3 E hE).2.1) inv
    exact lift hI.1 hI.2 _ { a with defers:=Ds.map markD++a.defers } rfl rfl (hp _ _ h3)
   have fin:LeavesInM (RF none) 0 P fi a'.tmps (rangePost (RF fx.ro) 0 P l (L6 G fx γ (E1 L.n L.t bs) w Q) { a with defers:=Ds.map markD++a.defers }) a'.defers .returning w':=by
    rw[k1]
    refine V9 (λw''=>Env G L γ w bs l D Ds w1.heap.size a.tmps (X6 fn a.tmps L.ps L.assign L.body D e2) γ' b' uTop w''/\Sim G γ' (E1 ni ti b') tm w'') (λw'' hI=>?_) Es w' ⟨h4,h5⟩ k2 (λE hE=>(k3 E hE).2.1) inv
    obtain⟨h4,h5⟩:=hI
    refine⟨.tuple #[],by rw[results_eq,hres,zM];simp_all,?_⟩
    refine⟨_,_,run_endLoop h4.loop (by grind [X6]),?_⟩
    have h6:=h4.record { X6 fn a.tmps L.ps L.assign L.body D e2 with state:=.exhausted }
    have l6:=lift h6 ((Y5.put h4.loop rfl).sim h5)
    obtain⟨q1,q2⟩:=hR e2 b' h3
    rcases q1 with rfl|rfl|⟨id,rfl⟩
    ·exact l6 .normal _ rfl rfl q2
    ·exact wpIn_ret (l6 .ret _ rfl rfl q2)
    ·exact wpIn_exit (by grind)
   rcases h1 with rfl|rfl
   ·exact fin
   ·exact fin
  ·refine gw.2.sim ⟨by show _=max fi.ntmps (first.length+1+caps.length);simp;omega,λi=>?_,hs.b,hs.u,hs.g,hs.o⟩
   have hvals:∀j x,(first++.yld l :: caps)[j]?=some x->∃y,(fs++Value.func (Fn.yield l) #[] #[] :: cv)[j]?=some y/\Rep γ w bs uTop x y:=λj x hx=>by
    rcases wo j first.length with hj|hj
    ·rw[wy hj] at hx
     have hj':j < fs.length:=by omega
     refine⟨fs[j],by rw[wy hj'];grind,p1 j x _ hx (by grind)⟩
    ·rw[wz hj] at hx
     rw[wz (by omega)]
     rw[l1]
     cases hk:j - first.length with
     | zero=>
      rw[hk] at hx
      simp only[wO,zp] at hx
      subst hx
      exact⟨_,rfl,.data (.yld _)⟩
     | succ k=>
      rw[hk] at hx
      simp only[List.getElem?_cons_succ] at hx ⊢
      have hk2:=(wm.1 hx).1
      exact⟨cv[k]'(by omega),zR (by omega),p2 k x _ hx (zR (by omega))⟩
   have e:((fs.toArray++#[Value.func (Fn.yield l) #[] #[]]++cv.toArray)++Array.replicate (fi.ntmps - (fs.toArray++#[Value.func (Fn.yield l) #[] #[]]++cv.toArray).size) undef).getD i undef=((fs++Value.func (Fn.yield l) #[] #[] :: cv)++List.replicate (fi.ntmps - (fs.length+1+cv.length)) undef).getD i undef:=by
    rw[wH,wP]
    congr 1
    rw[<-Array.getElem?_toList]
    have hn:fi.ntmps - (fs.toArray++#[Value.func (Fn.yield l) #[] #[]]++cv.toArray).size=fi.ntmps - (fs.length+1+cv.length):=by
     simp only[Array.size_append,List.size_toArray,wG,List.length_nil]
    rw[hn]
    simp only[Array.toList_append,Array.toList_replicate,List.append_assoc,List.singleton_append]
   show Rep _ _ _ _ _ (Array.getD _ i undef)
   rw[e]
   show Rep _ _ _ _ ((first++.yld l :: caps).getD i .undef) _
   cases hx:(first++.yld l :: caps)[i]? with
   | none=>rw[wP,hx];exact .undef _
   | some x=>
    obtain⟨y,hy,hr⟩:=hvals i x hx
    have hi':=(wm.1 hy).1
    rw[wP,wP,hx,wy hi',hy]
    exact hr
theorem K6.yieldG{L:YL}{l:Nat}{s:YS}{Q:Exit->YS->Prop}{ops:Array Oper}{i:Nat}{is:List Nat}{o:Oper}{x:Operand}{xs:Array Operand}{ts:Array TypeId}{cs:List V}{R:Exit->(ze)->Prop}(hi:ops[i]?=some o)(hgd:D7 ops s.st o=some true)
  (ho:o.op=.call { callee:=.value x,args:=xs,argTypes:=ts }) (hx:s.st.ev G x=some (.yld l)) (hcs:evs (s.st.ev G) xs.toList=some cs) (hdst:H7 s.st.n o.dst=true)
  (hsu:s.st.u=uTop) (hsx:s.x=.normal) (hti:∀i,okV I9 (s.st.t i)=true) (ht:∀i,okV I9 (L.t i)=true) (hpn:∀p,p∈L.ps.toList->p < L.n) (hps:cs.length=L.ps.size) (hr:RoundT P G L.n L.t L.ps.toList L.assign L.body s.st.b cs R)
  (hR:∀e b',R e b'->e=.normal\/e=.ret\/∃id,e=.exit id)
  (hn:∀e b',R e b'->K6 P G L l ops is ⟨e,(E1 s.st.n s.st.t b').put o.dst (.bool (P2 e).isNone)⟩ Q):K6 P G L l ops (i :: is) s Q:=λfn γ0 w0 b0 D Ds sz te γ a w he hs hd=>by
 obtain⟨sx,⟨ni,ti,b,u⟩⟩:=s
 simp only at hsu hsx
 subst hsu;subst hsx
 simp only[wpOpsIn,hi]
 have hw:Region.wanted o (yielded ops a.tmps)=true:=E5 hs hgd
 rw[if_pos hw]
 have pu:∀(e:Exit) (b':ze),((E1 ni ti b').put o.dst (.bool (P2 e).isNone)).b=b'/\((E1 ni ti b').put o.dst (.bool (P2 e).isNone)).u=uTop:=λe b'=>by
  cases o.dst<;>exact⟨rfl,rfl⟩
 exact yield_op ho hx hcs hs hti ht hpn he hps hr hR hd λe b' γ' w' h1 h2 h3 h4 _=>hn e b' h1 fn γ0 w0 b0 D Ds sz te γ' _ w' (by grind) (h3.put hdst (.data (.bool _))) (by rw[U9];exact h4)
end
theorem TV.rangeP{P:Program}{G:zd}{g:Operand}{ps:Array Tmp}{assign body:Code}{st:St}{f:FuncId}{fi:Func}{c:Code}{first caps:List V}{R Rp:Exit->(ze)->Prop}{Q:Exit->St->Prop}
  (hg:st.shift.ev G g=some (.fn f first caps)) (hf:P.funcs[f]?=some fi) (hb:fi.body=some c) (hname:(fi.name== "runtime.NumGoroutine")=false) (hres:fi.results=#[]) (hu:∀b k,st.b b=some k->st.u b=true) (hpn:∀i,okV I9 (W5 sh (st.t i))=true)
  (hi:IterP P G c (max fi.ntmps (first.length+1+caps.length)) (λl=>first++.yld l :: caps) (shB st.b) ⟨st.n,λi=>W5 sh (st.t i),ps,assign,body⟩ R Rp)
  (hR:∀e b',R e b'->(e=.normal\/e=.ret\/∃id,e=.exit id)/\∃b0,b'=shB b0/\(⟨st.n,st.t,b0,st.u⟩:St).known/\Q e ⟨st.n,st.t,b0,st.u⟩) (hp:∀e b',Rp e b'->∃b0,b'=shB b0/\(⟨st.n,st.t,b0,st.u⟩:St).known/\Q e ⟨st.n,st.t,b0,st.u⟩):TV P G (.rangeFunc g ps assign body) st Q:=λfx γ a w hs hx=>by
 have hx':FxOk fx γ.shift a.defers w:=⟨hx.1,hx.2.1,λl hl=>⟨(hx.2.2 l hl).1,by simp only[Gh.shift,(hx.2.2 l hl).2];rfl⟩⟩
 have key:CW fx.ro P (.rangeFunc g ps assign body) (L6 G fx γ.shift st.shift w (λe s=>∃s':St,s=s'.shift/\s'.u=st.u/\s'.known/\Q e s')) a w  :=range_lawF (first:=first) (L:=⟨st.n,λi=>W5 sh (st.t i),ps,assign,body⟩) (bs:=shB st.b) (Q:=λe s=>∃s':St,s=s'.shift/\s'.u=st.u/\s'.known/\Q e s') hg hpn hf hb hname hres hi (λe b' h=>by
   obtain⟨h1,b0,rfl,h2,h3⟩:=hR e b' h
   exact⟨h1,⟨st.n,st.t,b0,st.u⟩,rfl,rfl,h2,h3⟩) (λe b' h=>by
   obtain⟨b0,rfl,h2,h3⟩:=hp e b' h
   exact⟨⟨st.n,st.t,b0,st.u⟩,rfl,rfl,h2,h3⟩) fx γ.shift a w hs.shift hx'
 grind [wpIn_mono,L6.unshift]
theorem TV.rangeF{P:Program}{G:zd}{g:Operand}{ps:Array Tmp}{assign body:Code}{st:St}{f:FuncId}{fi:Func}{c:Code}{first caps:List V}{R:Exit->(ze)->Prop}{Q:Exit->St->Prop}
  (hg:st.shift.ev G g=some (.fn f first caps)) (hf:P.funcs[f]?=some fi) (hb:fi.body=some c) (hname:(fi.name== "runtime.NumGoroutine")=false) (hres:fi.results=#[]) (hu:∀b k,st.b b=some k->st.u b=true) (hpn:∀i,okV I9 (W5 sh (st.t i))=true)
  (hi:IterT P G c (max fi.ntmps (first.length+1+caps.length)) (λl=>first++.yld l :: caps) (shB st.b) ⟨st.n,λi=>W5 sh (st.t i),ps,assign,body⟩ R)
  (hR:∀e b',R e b'->(e=.normal\/e=.ret\/∃id,e=.exit id)/\∃b0,b'=shB b0/\(⟨st.n,st.t,b0,st.u⟩:St).known/\Q e ⟨st.n,st.t,b0,st.u⟩):TV P G (.rangeFunc g ps assign body) st Q:=TV.rangeP hg hf hb hname hres hu hpn hi hR λ_ _ h=>h.elim
theorem Gst.snapT{G:zd}{st:St}{t b:Nat}{k:Blk}{row:List V}(ht:st.t t=.ptr b 0 0)(hb:st.b b=some k)(hr:k.rows=[row])(hM:k.size < J8)(hd:∀c,c∈row->H2 c=true):Gst G st ((st.delB b).setT t (.snap row)):=λγ tmps w hs=>by
 obtain⟨γ',h1,h2,h3,_,h4⟩:=hs.shareL hb (by grind)
 refine⟨γ',?_,h2,h3⟩
 have hp:=hs.t t
 rw[ht] at hp
 obtain⟨B,o,hv,hl⟩:=hp.ptr_inv hb
 have hat:BlkAt γ w st.b st.u b k:=by
  rcases hs.b b k hb with⟨h0,_⟩|hm|ha
  ·grind
  ·exact(hm.small hM).elim
  ·exact ha
 obtain⟨_,B',o',cs,e,g1,g2,g3,g4,g5,g6,_,_⟩:=hat
 rw[hl] at g1;simp only[zp,zJ] at g1
 obtain⟨rfl,rfl⟩:=g1
 rw[hr] at g5
 simp only[List.length_singleton,Nat.one_mul] at g5
 have hsl:=h4 (.ref b 0 1) (.slice (some ⟨B,o,none⟩) 1 1) (by
  have:=Rep.ref (γ:=γ) (w:=w) (bs:=st.b) (u:=st.u) b 0 1 B o 1 k hb hl (by rw[hr];simp) (zD _) (g3.room (by omega)) hM (by rw[hr];simp)
  grind)
 simp only[shV,if_true,hr,List.drop_zero,List.take_succ_cons,List.take_zero] at hsl
 have hsn:Rep γ' w (st.delB b).b (st.delB b).u (.snap row) (tmps.getD t undef):=by
  rcases hsl.sl_inv with⟨a,_,h0⟩|⟨B2,o2,cap,vs,e2,_,_,k3,k4⟩
  ·simp at h0
  ·simp only[Value.slice.injEq,zp,Addr.mk.injEq,and_true] at e2
   obtain⟨⟨rfl,rfl⟩,_⟩:=e2
   rw[hv]
   have:([row].flatten)=row:=by simp
   rw[this] at k3 k4
   have:=K7.snap (lim:=γ'.lim) (w:=w) row B o vs k3 k4
   exact .data (by grind)
 exact⟨h1.n,λi=>by
  simp only[St.setT]
  by_cases hi:i=t
  ·grind
  ·rw[if_neg hi];exact h1.t i,h1.b,h1.u,h1.g,h1.o⟩
theorem ofL_mem{l:List (Nat×Blk)}(h:(l.map (·.1)).Nodup){p:Nat×Blk}(hp:p∈l):ofL l p.1=some p.2:=by
 induction l with
 | nil=>simp at hp
 | cons q l ih=>
  rw[ofL_cons]
  grind
theorem Gst.mob{G:zd}{lits rest:List (Nat×Blk)}{kd:Blk}{d m n:Nat}(hdm:d≠m)(hpm:I9 m=false)(hm:uTop m=true)(hnd:((lits++(d,kd) :: rest).map (·.1)).Nodup)(hkd:U7 kd.rows)(hrd:∀p,p∈rest->U7 p.2.rows)
  (hl:(lits.all λp=>p.1 != m&&uTop p.1&&(p.2.rows.all λr=>r.all (okV λi=>(((lits++(d,kd) :: rest).map (·.1)).contains i || uTop i)&&i != m))&&((p.2.ren (M4 d m)).rows.all λr=>r.all (okV uTop)))=true)
  (hr:(rest.all λp=>p.1 != m&&uTop p.1)=true) :
  Gst G (X0 n [] (lits++(d,kd) :: rest) ((lits++(d,kd) :: rest).map (·.1))) (E1 n (λ_=>.undef) (ofL ((lits.map λp=>(p.1,p.2.ren (M4 d m)))++(m,kd) :: rest))):=by
 let bs:=lits++(d,kd) :: rest
 let u1:Nat->Bool:=λi=>(((lits++(d,kd) :: rest).map (·.1)).contains i || uTop i)&&i != m
 let st1:St:=⟨n,λ_=>.undef,ofL bs,u1⟩
 have hbo:∀b k,st1.b b=some k->(b,k)∈bs:=(by grind [O5,ofL])
 have hne:∀p,p∈bs->p.1≠m:=(by grind)
 have f1:F7 (X0 n [] bs (bs.map (·.1))) st1:=⟨rfl,λi=>.inl rfl,λb=>.inr ⟨rfl,λk hk=>by
  have hmem:=hbo b k hk
  refine⟨?_,λr hr' c hc=>?_⟩
  ·grind
  ·rcases zU.1 hmem with h|h
   ·grind
   ·rcases zT.1 h with h|h
    ·cases h;exact R4 (hkd r hr' c hc) _
    ·exact R4 (hrd _ h r hr' c hc) _⟩,(by grind [uPin_top,uTop])⟩
 have hu1:st1.u m=false:=by grind
 refine Gst.trans (Gst.forget f1) (Gst.trans (Gst.renm hdm hu1) (Gst.forget ⟨rfl,λi=>.inl rfl,λb=>?_,λb hb=>uPin_top hb⟩))
 show ofL _ b=none\/_
 cases hf:ofL ((lits.map λp=>(p.1,p.2.ren (M4 d m)))++(m,kd) :: rest) b with
 | none=>exact .inl rfl
 | some k=>
  have hmem:=O5 hf
  have look:∀p,p∈bs->st1.b p.1=some p.2:=λp hp=>ofL_mem hnd hp
  rcases zU.1 hmem with h|h
  ·obtain⟨p,hp,e⟩:=zF.1 h
   simp only[zJ] at e
   obtain⟨rfl,rfl⟩:=e
   have hpm':=hne p (wS _ hp)
   have hpd:p.1≠d:=(by grind)
   have hall:=zH.1 hl p hp
   simp only[zC] at hall
   refine .inr ⟨?_,λk hk=>?_⟩
   ·show ofL _ p.1=(if p.1=m then (st1.b d).map (Blk.ren (M4 d m)) else if p.1=d then none else (st1.b p.1).map (Blk.ren (M4 d m)))
    grind
   ·have hk':(if p.1=m then (st1.b d).map (Blk.ren (M4 d m)) else if p.1=d then none else (st1.b p.1).map (Blk.ren (M4 d m)))=some k:=hk
    rw[if_neg hpm',if_neg hpd,look p (wS _ hp)] at hk'
    simp only[wu,zp] at hk'
    subst hk'
    exact⟨hall.1.1.2,λr hr' c hc=>zH.1 (zH.1 hall.2 r hr') c hc⟩
  ·rcases zT.1 h with h|h
   ·cases h
    refine .inr ⟨?_,λk' hk=>?_⟩
    ·show ofL _ m=(if m=m then (st1.b d).map (Blk.ren (M4 d m)) else if m=d then none else (st1.b m).map (Blk.ren (M4 d m)))
     rw[hf,if_pos rfl,look (d,kd) (by simp[bs])]
     simp only[wu,hkd.ren]
    ·have hk':(if m=m then (st1.b d).map (Blk.ren (M4 d m)) else if m=d then none else (st1.b m).map (Blk.ren (M4 d m)))=some k':=hk
     rw[if_pos rfl,look (d,kd) (by simp[bs])] at hk'
     simp only[wu,hkd.ren,zp] at hk'
     subst hk'
     exact⟨hm,λr hr' c hc=>R4 (hkd r hr' c hc) _⟩
   ·have hin:(b,k)∈bs:=(by grind)
    have hpm':b≠m:=hne _ hin
    have hpd:b≠d:=(by grind)
    have hall:=zH.1 hr _ h
    simp only[zC] at hall
    have hk3:(k:Blk).ren (M4 d m)=k:=(hrd _ h).ren _
    refine .inr ⟨?_,λk' hk=>?_⟩
    ·show ofL _ b=(if b=m then (st1.b d).map (Blk.ren (M4 d m)) else if b=d then none else (st1.b b).map (Blk.ren (M4 d m)))
     grind
    ·have hk':(if b=m then (st1.b d).map (Blk.ren (M4 d m)) else if b=d then none else (st1.b b).map (Blk.ren (M4 d m)))=some k':=hk
     rw[if_neg hpm',if_neg hpd,look (b,k) hin] at hk'
     simp only[wu,hk3,zp] at hk'
     subst hk'
     exact⟨hall.2,λr hr' c hc=>R4 (hrd _ h r hr' c hc) _⟩
def cL:Code->Code
 | .seq x _=>x
 | _=>.skip
def cR:Code->Code
 | .seq _ y=>y
 | _=>.skip
def cB:Code->Code
 | .block _ y=>y
 | .loop y=>y
 | .scope y=>y
 | _=>.skip
def rAssign:Code->Code
 | .rangeFunc _ _ a _=>a
 | _=>.skip
def rBody:Code->Code
 | .rangeFunc _ _ _ b=>b
 | _=>.skip
def rOps:Code->Array Oper
 | .region _ o _=>o
 | _=>#[]
theorem iter_succ{σ ε:Type}(f:σ->Option (σ⊕ε))(m:Nat)(x:σ):S3 f (m+1) x=(match f x with|none=>none|some (.inl z)=>S3 f m z|some (.inr e)=>some e):=by
 grind [S3]
theorem Gst.same{G:zd}(st:St):Gst G st st:=λγ _ w hs=>⟨γ,hs,.refl γ w,.refl hs.u⟩
theorem find_b{l:List (Nat×Blk)}{b:Nat}{k:Blk}(h:ofL l b=some k):∃q,q∈l/\q.1=b/\q.2=k:=by
 grind [List.mem_of_find?_eq_some,Option.some.inj,ofL]
section
variable {P:Program} {G:zd}
end
theorem singles_flatten:∀l:List V,(l.map λc=>[c]).flatten=l
 | []=>rfl
 | c :: l=>by simp[singles_flatten l]
theorem singles_of{α:Type}{ty:Ty α}(h1:∀x,(ty.c x).length=1):∀l:List α,((l.map ty.c).flatten.map λc=>[c])=l.map ty.c
 | []=>rfl
 | x :: l=>by
  obtain⟨c,hc⟩:=List.length_eq_one_iff.1 (h1 x)
  simp only[zW,List.flatten_cons,wA,hc,List.map_nil]
  rw[singles_of h1 l];rfl
theorem single_len{α:Type}{ty:Ty α}(h1:∀x,(ty.c x).length=1)(l:List α):(l.map ty.c).flatten.length=l.length:=by
 induction l with
 | nil=>rfl
 | cons x l ih=>grind
theorem Sim.newCells{G:zd}{γ:Gh}{st:St}{a:Act}{w:World}(h:Sim G γ st a.tmps w){d:Nat}{cells:List V}{vs:Array Value}{e:TypeId}(hu:st.u d=false)(hd:d < st.n)
  (hr:U3 γ w st.b st.u cells vs) (hc:∀c,c∈cells->c.isCell=true/\c.isOwn=false) :
  ∃γ',Grow γ w γ' { w with heap:=w.heap.push (.cells vs e) }/\Pin γ st.b st.u γ' (st.setB d ⟨1,true,cells.map λc=>[c]⟩).b (st.setB d ⟨1,true,cells.map λc=>[c]⟩).u/\
   Sim G γ' ((st.setB d ⟨1,true,cells.map λc=>[c]⟩).setT d (.ptr d 0 0)) (a.put (some d) (.pointer (some ⟨w.heap.size,0,none⟩))).tmps { w with heap:=w.heap.push (.cells vs e) }:=by
 have hM:(1:Nat) < J8:=by decide
 have key:=h.newBlk (d:=d) (size:=1) (rows:=cells.map λc=>[c]) (cs:=vs) (e:=e) (w1:={ w with heap:=w.heap.push (.cells vs e) }) hM hu rfl ⟨rfl,rfl,rfl⟩ (by grind) (by simp[hr.1]) (λi c hi=>by
  rw[singles_flatten] at hi
  have hlt:i < vs.size:=by rw[hr.1];grind
  have hv:vs[i]?=some vs[i]:=(by grind)
  obtain⟨c1,c2⟩:=hc c (zO hi)
  exact⟨vs[i],hv,hr.2 i c _ hi hv,(hr.2 i c _ hi hv).isCell_one c1,c2⟩)
 refine⟨_,key.2.1,key.2.2.pin,?_⟩
 have hp:=key.1.put (a:=a) (dst:=some d) (c:=.ptr d 0 0) (v:=.pointer (some ⟨w.heap.size,0,none⟩)) (by simpa[H7,St.setB] using hd) (by
  have:=Rep.ptr (γ:=γ.add d w.heap.size) (w:={ w with heap:=w.heap.push (.cells vs e) }) (u:=(st.setB d ⟨1,true,cells.map λc=>[c]⟩).u) (bs:=(st.setB d ⟨1,true,cells.map λc=>[c]⟩).b) d 0 0 w.heap.size 0 ⟨1,true,cells.map λc=>[c]⟩ (by simp[St.setB]) (by simp[Gh.add]) hM
  grind)
 exact hp
section
variable {P:Program} {G:zd} {α:Type} {ty:Ty α}
def Rule.allocS(e:TypeId)(d:Nat)(l:List α)(h1:∀x,(ty.c x).length=1)(hz:zeroV P e=some (l.map ty.c).flatten):Rule P G Unit where
 op:=.alloc e
 dst:=some d
 vals:=[]
 blks:=[]
 o:=some ()
 ws:=λ_=>[.b d (some ⟨1,true,l.map ty.c⟩),.t d (.ptr d 0 0)]
 dt:=[d]
 dat:=λ_ i k h _=>by
  simp only[zT,Wr.b.injEq,zp,reduceCtorEq,wg,or_false] at h
  rw[h.2];exact ty.data _
 ok:=λ_ _ x st hop hdst _ _ hd=>W6 λγ a w hs=>by
  obtain⟨hn,hu⟩:=hd d rfl
  obtain⟨z,hz1,hz2⟩:=run_zeroV (P:=P) (γ:=γ) (w:=w) (bs:=st.b) (u:=st.u) hz
  obtain⟨γ',g,pn,hs'⟩:=hs.newCells (e:=e) hu hn hz2 (zeroV_isCell hz)
  rw[singles_of h1] at pn hs'
  refine⟨_,_,γ',?_,g,pn,by rw[hdst];exact hs'⟩
  simp[execOp,hop,Instr.alloc,hz1,newVar,newRow]
def Rule.boxS(e:TypeId)(ox:Operand)(d:Nat)(l:List α)(h1:∀x,(ty.c x).length=1)(hb:boxV (.agg (l.map ty.c).flatten)=some (l.map ty.c).flatten):Rule P G Unit where
 op:=.box e ox
 dst:=some d
 vals:=[(ox,.agg (l.map ty.c).flatten)]
 blks:=[]
 o:=some ()
 ws:=λ_=>[.b d (some ⟨1,true,l.map ty.c⟩),.t d (.ptr d 0 0)]
 dt:=[d]
 dat:=λ_ i k h _=>by
  simp only[zT,Wr.b.injEq,zp,reduceCtorEq,wg,or_false] at h
  rw[h.2];exact ty.data _
 ok:=λ_ _ x st hop hdst hvs _ hd=>W6 λγ a w hs=>by
  obtain⟨hn,hu⟩:=hd d rfl
  have hx:=hvs (ox,.agg (l.map ty.c).flatten) (by simp) γ a w hs
  obtain⟨k1,k2⟩:=boxV_spec hb hx
  obtain⟨γ',g,pn,hs'⟩:=hs.newCells (e:=e) hu hn k1 k2
  rw[singles_of h1] at pn hs'
  refine⟨_,_,γ',?_,g,pn,by rw[hdst];exact hs'⟩
  simp[execOp,hop,Instr.box,newVar,newRow]
def Rule.arrAt(t:TypeId)(ox oi:Operand)(d b:Nat)(k:Blk)(r:Nat)(kd:IntKind)(n:Int)(len:Nat){e:TypeId}(ht:P.underlying t=some (.array len e))(he:(P.info? e).map (·.size)=some k.size):Rule P G Unit where
  op:=.indexAddr t ox oi
  dst:=some d
  vals:=[(ox,.ptr b r 0),(oi,.int kd n)]
  blks:=[(b,k)]
  o:=bif decide (0<=n)&&decide (n < (len:Int)) then some () else none
  ws:=λ_=>[.t d (.ptr b (r+n.toNat) 0)]
  dt:=[]
  dat:=(by grind)
  ok:=λ_ ho x st hop hdst hvs hb hd=>by
    have hn:0<=n/\n < (len:Int):=by
      grind
    obtain⟨hdn,hu⟩:=hd d rfl
    have key:G1 P G x st (st.put (some d) (.ptr b (r+n.toNat) 0)):=by
      rw[<-hdst]
      refine D3 (by grind [H7]) λγ a w hs=>?_
      have hx:=hvs (ox,.ptr b r 0) (by simp) γ a w hs
      have hi:=hvs (oi,.int kd n) (by simp) γ a w hs
      have hk:=hb (b,k) (by simp)
      obtain⟨B,o,hv,hl⟩:=hx.ptr_inv hk
      have hvi:=hi.int_inv
      obtain⟨ej,hej,hsz⟩:=zw.1 he
      refine⟨.pointer (some ⟨B,o+(r * k.size+0)+n.toNat * ej.size,none⟩),?_,?_⟩
      · grind [V1,Sem.run_bind,Result.andThen_ok,Sem.run_pure,execOp]
      · have:=Rep.ptr (γ:=γ) (w:=w) (u:=st.u) b (r+n.toNat) 0 B o k hk hl (hx.ptr_small hk)
        grind
    exact key
def Rule.loadX(t:TypeId)(ox:Operand)(d b:Nat)(k:Blk)(c:V)(hM:k.size < J8)(h:F2 P t k.rows.flatten=some c):Rule P G Unit where
  op:=.load t ox
  dst:=some d
  vals:=[(ox,.ptr b 0 0)]
  blks:=[(b,k)]
  o:=some ()
  ws:=λ_=>[.t d c]
  dt:=[]
  dat:=(by grind)
  ok:=λ_ _ x st hop hdst hvs hb hd=>by
    obtain⟨hdn,hu⟩:=hd d rfl
    have key:G1 P G x st (st.put (some d) c):=by
      rw[<-hdst]
      refine D3 (by grind [H7]) λγ a w hs=>?_
      have hx:=hvs (ox,.ptr b 0 0) (by simp) γ a w hs
      have hk:=hb (b,k) (by simp)
      obtain⟨B,o,hv,hl⟩:=hx.ptr_inv hk
      have hcs:G2 γ w st.b st.u B o k.rows.flatten:=by
        rcases hs.b b k hk with⟨v1,_⟩|hm|⟨_,B2,o2,cs2,e2,h1,h2,h3,h4,h5,h6,h7,h8⟩
        · grind
        · exact(hm.small hM).elim
        rw[hl] at h1;simp only[zp,zJ] at h1
        obtain⟨rfl,rfl⟩:=h1
        intro j c' hc'
        obtain⟨v,q1,q2,_⟩:=h6 j c' hc'
        exact⟨v,by rw[h3.cellAt];exact q1,q2⟩
      obtain⟨y,hy,hd'⟩:=run_loadCellsV h hcs
      simp_all [execOp,Instr.loadAt,Instr.sureAddr]
    exact key
def Rule.storeX(t:TypeId)(ox ov:Operand)(b:Nat)(k:Blk)(c:V)(l:List α)(h1:∀x,(ty.c x).length=1)(hM:k.size < J8)(hz:k.size=1)(hex:k.excl=true)(hn:k.rows.length=l.length)(hb:boxV c=some (l.map ty.c).flatten)
    (ht:(P.info? t).map (·.size)=some l.length):Rule P G Unit where
  op:=.store t ox ov
  dst:=none
  vals:=[(ox,.ptr b 0 0),(ov,c)]
  blks:=[(b,k)]
  o:=some ()
  ws:=λ_=>[.b b (some ⟨k.size,k.excl,l.map ty.c⟩)]
  dt:=[]
  dat:=(by grind)
  ok:=λ_ _ x st hop hdst hvs hbk _=>effO_skip λγ a w hsim=>by
    have hx:=hvs (ox,.ptr b 0 0) (by simp) γ a w hsim
    have hy:=hvs (ov,c) (by simp) γ a w hsim
    have hk:=hbk (b,k) (by simp)
    obtain⟨ti,hti,hsz⟩:=zw.1 ht
    obtain⟨B,o',hv,hl⟩:=hx.ptr_inv hk
    obtain⟨hcr,hcell⟩:=boxV_spec hb hy
    have hcl:((l.map ty.c).flatten).length=l.length:=single_len h1 l
    rcases hsim.b b k hk with⟨v1,_⟩|hm|⟨_,B2,o2,cs2,e2,g1,g2,g3,g4,g5,g6,g7,g8⟩
    · grind
    · exact(hm.small hM).elim
    rw[hl] at g1;simp only[zp,zJ] at g1
    obtain⟨rfl,rfl⟩:=g1
    have hvl:(a.eval ov).cells.toList.length=l.length:=by have:=hcr.1;grind
    have hcap:o'+l.length<=cs2.size:=by grind
    have hone:∀v,v∈(a.eval ov).cells.toList->v.oneCell'=true:=λv hv=>by
      obtain⟨j,hj,rfl⟩:=List.getElem_of_mem hv
      have hjc:j < ((l.map ty.c).flatten).length:=by grind
      have:=hcr.2 j _ _ (zR hjc) (by rw[wl (by simpa using hj)])
      exact this.isCell_one (by grind)
    have hrun:=A6 (P:=P) (B:=B) (o:=o'+(0 * k.size+0)) (e:=e2) (a.eval ov).cells.toList 0 w cs2 g3 hone (by grind)
    obtain⟨r1,r2⟩:=G8 (a.eval ov).cells.toList (o'+(0 * k.size+0)+0) cs2 (by rw[hvl];omega)
    have key:=hsim.storeBlk (cs':=M8 cs2 (o'+(0 * k.size+0)+0) (a.eval ov).cells.toList) (rows':=l.map ty.c) hk hM hl g2 g3 r1 (g7 hex)
      (by grind)
      (by simp[hn]) g5 (λidx c' hc'=>by
        have hidx:idx < l.length:=by grind
        rw[r2,if_pos (by grind)]
        have hj:idx < (a.eval ov).cells.toList.length:=by grind
        rw[show o'+idx - (o'+(0 * k.size+0)+0)=idx by omega]
        refine⟨_,zR hj,?_,(by grind),.of_not_own (hcell c' (zO hc')).2⟩
        exact hcr.2 idx c' _ hc' (by rw[wl (by simpa using hj)];simp))
    refine⟨_,γ,?_,key.2.1,key.2.2.pin,by rw[hdst];exact key.1⟩
    have hsize:¬((a.eval ov).cells.size≠ti.size):=by rw[hcr.1,hcl,hsz];simp
    simp only[execOp,hop,Instr.storeAt,hv,Instr.sureAddr,storeVar,sizeOf,typeInfo,hti,zM,run_program,wC,zQ,Sem.run_ite,hsize,if_false,hrun]
def cellVal:V->Option Value
 | .int k n=>some (.int k n)
 | .bool b=>some (.bool b)
 | .str s=>some (.string s)
 | .nilp=>some (.pointer none)
 | .ifc x=>some x
 | _=>none
def valV:V->Option Value
 | .agg cs=>(M7 cellVal cs).map λl=>.agg l.toArray
 | c=>cellVal c
theorem cellVal_rep{γ:Gh}{w:World}{bs:ze}{u:zf}{c:V}{v x:Value}(h:cellVal c=some v)(hr:Rep γ w bs u c x):x=v:=by
 cases c<;>simp[cellVal] at h
 case int=>subst h;exact hr.int_inv
 case bool=>subst h;exact hr.bool_inv
 case str=>subst h;exact hr.str_inv
 case nilp=>subst h;cases hr with|data h=>cases h;rfl
 case ifc=>subst h;exact hr.ifc_inv
theorem valV_rep{γ:Gh}{w:World}{bs:ze}{u:zf}{c:V}{v x:Value}(h:valV c=some v)(hr:Rep γ w bs u c x):x=v:=by
 cases c with
 | agg cs=>
  simp only[valV,zw] at h
  obtain⟨l,hl,rfl⟩:=h
  obtain⟨vs,rfl,h1,h2⟩:=hr.agg_inv
  congr 1
  congr 1
  refine List.ext_getElem? λi=>?_
  have hlen:=mapO_len hl
  by_cases hi:i < vs.length
  ·have hv:vs[i]?=some vs[i]:=zR hi
   have hli:i < l.length:=by omega
   have hlv:l[i]?=some l[i]:=(by grind)
   obtain⟨c0,k1,k2⟩:=O6 hl i _ hlv
   grind [cellVal_rep]
  grind
 | _=>grind [cellVal_rep,valV]
def Rule.ifc(t:TypeId)(ox:Operand)(d:Nat)(c:V)(v:Value)(hv:valV c=some v)(ht:P.concrete t=true):Rule P G Unit where
 op:=.makeInterface t ox
 dst:=some d
 vals:=[(ox,c)]
 blks:=[]
 o:=some ()
 ws:=λ_=>[.t d (.ifc (.iface t v))]
 dt:=[]
 dat:=(by grind)
 ok:=λ_ _ x st hop hdst hvs _ hd=>by
  obtain⟨hdn,hu⟩:=hd d rfl
  have key:G1 P G x st (st.put (some d) (.ifc (.iface t v))):=by
   rw[<-hdst]
   refine D3 (by grind [H7]) λγ a w hs=>?_
   have hx:=valV_rep hv (hvs (ox,c) (by simp) γ a w hs)
   exact⟨.iface t v,by simp_all [run_makeInterface,execOp],.data (.ifc _ rfl)⟩
  exact key
def Rule.asserted(ox:Operand)(xt t:TypeId)(d:Nat)(x:Value)(yes:Bool)(c z:V)(hr:∀w:World,∃v,(Instr.typeAssert x xt t true).run P w=.ok (.tuple #[v,.bool yes]) w/\∀γ bs u,Rep γ w bs u (if yes then c else z) v):Rule P G Unit where
 op:=.typeAssert ox xt t true
 dst:=some d
 vals:=[(ox,.ifc x)]
 blks:=[]
 o:=some ()
 ws:=λ_=>[.t d (.tup [if yes then c else z,.bool yes])]
 dt:=[]
 dat:=(by grind)
 ok:=λ_ _ y st hop hdst hvs _ hd=>by
  obtain⟨hdn,hu⟩:=hd d rfl
  have key:G1 P G y st (st.put (some d) (.tup [if yes then c else z,.bool yes])):=by
   rw[<-hdst]
   refine D3 (by grind [H7]) λγ a w hs=>?_
   have hx:=(hvs (ox,.ifc x) (by simp) γ a w hs).ifc_inv
   obtain⟨v,h1,h2⟩:=hr w
   refine⟨.tuple #[v,.bool yes],by simp[execOp,hop,hx,h1],.tup _ [v,.bool yes] rfl λi c' v' hc hv=>?_⟩
   match i,hc,hv with
   | 0,hc,hv=>grind
   | 1,hc,hv=>simp at hc hv;subst hc;subst hv;exact .data (.bool _)
   | n+2,hc,hv=>simp at hc
  exact key
end
theorem Grow.below{γ:Gh}{w w':World}(b:RowKit.Below w.heap.size w w'):Grow γ w γ w' where
 os:=b.os
 tape:=b.tape
 output:=b.output
 size:=b.size
 imm:=λB o v _ h=>by
  have hb:=cellAt_lt h
  unfold cellAt World.cell? at h ⊢
  rw[b.block B hb];exact h
 lim:=λ_ _=>zD _
 free:=λB hB h=>⟨b.block B hB,h,rfl⟩
 room:=λB cs e fz h=>by
  refine⟨cs,fz,?_,rfl,.inl rfl⟩
  rw[b.block B (by
   grind)]
  exact h
theorem callC_shelf{P:Program}{G:zd}{f:FuncId}{args:List V}{vs:Array Value}{res:V}{v:Value}
  (hargs:∀(γ:Gh) (w:World) as,U3 γ w (ofL []) uTop args as->as=vs) (h:∀w,Calls P f vs w λe w'=>e=.returned v/\RowKit.Below w.heap.size w w')
  (hres:∀(γ:Gh) (w:World) bs u,Rep γ w bs u res v):CallC P G f args (ofL []) res (ofL []):=λγ w as _ hown hc _=>by
 obtain rfl:=hargs γ w as hc
 refine(h w).mono λe w' hh=>?_
 obtain⟨rfl,b⟩:=hh
 refine⟨v,γ,rfl,Grow.below b,?_,hres _ _ _ _,(by grind [ofL]),λB x hB=>wJ (hown B x hB) b.size⟩
 exact λb _=>(by grind)
theorem args_str{s:za}(γ:Gh)(w:World) as (h:U3 γ w (ofL []) uTop [.str s] as):as=#[.string s]:=by
 obtain⟨h1,h2⟩:=h
 have h0:0 < as.size:=by grind
 have:=(h2 0 (.str s) as[0] rfl (by grind)).str_inv
 grind
def Z1(s:za):List Int:=s.data.toList.map λb=>(b.toNat:Int)
theorem J0(s:za):(Z1 s).length=s.size:=by
 unfold Z1
 simp_all
theorem singles_map{ty:Ty Int}(hc:∀x,ty.c x=[.int .u8 x])(l:List Int):(l.map ty.c).flatten=l.map (V.int .u8):=by
 induction l with
 | nil=>rfl
 | cons x l ih=>grind
section
variable {P:Program} {G:zd} {ty:Ty Int}
theorem run_copy_text{w:World}{dT sT t elem:TypeId}{B o n cap:Nat}{s:za}{cs:Array Value}{e:TypeId}(hu:P.underlying dT=some (.slice elem))(hs:(P.info? elem).map (·.size)=some 1)
  (hg:E7 w B cs e) (hle:s.size<=n) (hfit:o+s.size<=cs.size) :
  (Builtin.copy_ #[dT,sT] t #[.slice (some ⟨B,o,none⟩) n cap,.string s]).run P w=.ok (.int .i64 s.size) (World.setBlk w B (M8 cs o ((Z1 s).map (Value.int .u8))) e):=by
 have hl:((Z1 s).map (Value.int .u8)).length=s.size:=by rw[wj,J0]
 have hone:∀v,v∈(Z1 s).map (Value.int .u8)->v.oneCell'=true:=λv hv=>by obtain⟨b,_,rfl⟩:=zF.1 hv;rfl
 have hst:=A6 (P:=P) (B:=B) (o:=o) (e:=e) ((Z1 s).map (Value.int .u8)) 0 w cs hg hone (by grind)
 simp only[Nat.add_zero] at hst
 have hmin:Nat.min s.size n=s.size:=Nat.min_eq_left hle
 have htk:List.take s.size (List.map (λb:UInt8=>Value.int IntKind.u8 (b.toNat:Int)) s.data.toList)=(Z1 s).map (Value.int .u8):=by
  simp_all [List.take_of_length_le,wj,Array.length_toList,zD,Z1]
 cases hq:P.info? elem with
 | none=>grind
 | some i=>
  simp_all [zE,Builtin.copy_,Builtin.lenOf,Builtin.firstCells,sizeOf,typeInfo,Result.andThen,goInt]
def Rule.copyText{dT sT elem:TypeId}(ox os:Operand)(d b n:Nat)(l:List Int)(s:za)(hu:P.underlying dT=some (.slice elem))(hs:(P.info? elem).map (·.size)=some 1)(hn:l.length=n)(hc:∀x,ty.c x=[.int .u8 x])
    (hd:∀y,ty.c y=ty.d y):Rule P G Unit where
  op:=.call { callee:=.builtin .copy,args:=#[ox,os],argTypes:=#[dT,sT] }
  dst:=some d
  vals:=[(ox,.ref b 0 n),(os,.str s)]
  blks:=[(b,⟨1,true,l.map ty.c⟩)]
  o:=bif decide (s.size<=n)&&decide (0 < n) then some () else none
  ws:=λ_=>[.b b (some ⟨1,true,(D6 l 0 (Z1 s)).map ty.c⟩),.t d (.int .i64 (s.size:Int))]
  dt:=[b]
  dat:=λ_ q k hm _=>by
    simp only[zT,wg,or_false,Wr.b.injEq,zp,reduceCtorEq] at hm
    obtain⟨_,rfl⟩:=hm
    exact ty.data _
  ok:=λ_ ho x st hop hdst hvs hb hdd=>W6 λγ a w hsim=>by
    have hcc:s.size<=n/\0 < n:=by
      grind
    obtain⟨hle,hpos⟩:=hcc
    have hbb:st.b b=some ⟨1,true,l.map ty.c⟩:=hb (b,⟨1,true,l.map ty.c⟩) (by simp)
    have rx:Rep γ w st.b st.u (.ref b 0 n) (a.eval ox):=hvs (ox,.ref b 0 n) (by simp) γ a w hsim
    have ry:a.eval os=.string s:=(hvs (os,.str s) (by simp) γ a w hsim).str_inv
    obtain⟨hdn,_⟩:=hdd d rfl
    have hll:(l.map ty.c).length=n:=by grind
    have hfl:=singles_map hc
    rcases rx.ref_inv hbb with⟨B,o,cap,hv,hl,hil,hcap,hroom,hM,hcp⟩|⟨B,_,_,h0,_⟩|⟨_,_,h0,_⟩
    · rcases hsim.b b _ hbb with⟨v1,_⟩|hm|⟨_,B',o',cs,e',h1,h2,h3,h4,h5,h6,h7,h8⟩
      · grind
      · exact(hm.small hM).elim
      rw[hl] at h1;simp only[zp,zJ] at h1
      obtain⟨rfl,rfl⟩:=h1
      simp only at hM h4 h5 h6 h7 hv
      have h5':o+n<=cs.size:=by grind
      have ol:=J0 s
      have ev:a.eval ox=.slice (some ⟨B,o,none⟩) n cap:=by simpa using hv
      have hrun:=run_copy_text (P:=P) (w:=w) (dT:=dT) (sT:=sT) (t:=x.type) (B:=B) (o:=o) (s:=s) (n:=n) (cap:=cap) hu hs h3 hle (by omega)
      have key:=hsim.putRows (r:=Z1 s) (p:=0) (z:=1) (news:=(Z1 s).map (Value.int .u8)) hbb hM hd hl h2 h3 h4 h5 h6 (h7 trivial) (by grind) (by simp) (by grind) (λi c hi=>by
        rw[hfl,zV] at hi
        obtain⟨y,hy,rfl⟩:=zw.1 hi
        exact⟨.int .u8 y,by grind,.data (.int _ _),rfl⟩)
      simp only[Nat.zero_mul,Nat.add_zero] at key
      have pre : execOp a.eval x = (do let v <- Builtin.copy_ #[dT, sT] x.type #[a.eval ox, a.eval os]; pure (.value v)) := by
        have h1:execOp a.eval x=builtin .copy #[dT,sT] x.type (#[ox,os].map fun|.const _=>true|_=>false) (#[ox,os].map a.eval):=by
          show (execOp a.eval x)=_;unfold execOp;rw[hop];rfl
        rw[h1];simp[builtin]
      refine⟨.int .i64 s.size,_,γ,by simp_all,key.2.1,key.2.2.pin,?_⟩
      have hp:=key.1.put (a:=a) (dst:=some d) (c:=.int .i64 (s.size:Int)) (v:=.int .i64 s.size) (by grind [H7,St.setB]) (.data (.int _ _))
      rw[hdst]
      exact hp
    · grind
    grind
def Rule.octets{s t e:TypeId}(ox:Operand)(d:Nat)(x0:za)(hs:P.underlying s=some .string)(ht:P.underlying t=some (.slice e))(he:P.underlying e=some (.int .u8))
    (hi:(P.info? e).map (·.size)=some 1) (hc:∀x,ty.c x=[.int .u8 x]):Rule P G Unit where
  op:=.convert s t ox
  dst:=some d
  vals:=[(ox,.str x0)]
  blks:=[]
  o:=some ()
  ws:=λ_=>[.b d (some ⟨1,true,(Z1 x0).map ty.c⟩),.t d (.ref d 0 (Z1 x0).length)]
  dt:=[d]
  dat:=λ_ i k h _=>by
    simp only[zT,Wr.b.injEq,zp,reduceCtorEq,wg,or_false] at h
    rw[h.2];exact ty.data _
  ok:=λ_ _ x st hop hdst hvs _ hd=>W6 λγ a w hsim=>by
    obtain⟨hdn,hu⟩:=hd d rfl
    have ex:a.eval ox=.string x0:=(hvs (ox,.str x0) (by simp) γ a w hsim).str_inv
    have hfl:=singles_map hc (Z1 x0)
    have hol:=J0 x0
    have hrun:=run_bytes_of_string (P:=P) w s t e x0 hs ht he
    have hge:x0.size<=grownCap w x0.size 0 e:=grownCap_ge w x0.size 0 e
    obtain⟨N,hN⟩:∃N,N=grownCap w x0.size 0 e:=⟨_,rfl⟩
    rw[<-hN] at hrun hge
    obtain⟨cs,hcs⟩:∃cs,cs=bytesRow x0 N:=⟨_,rfl⟩
    rw[<-hcs] at hrun
    have hsz:cs.size=N:=by
      rw[hcs];unfold bytesRow
      rw[Array.size_append,Array.size_map,Array.size_replicate]
      have:x0.data.size=x0.size:=rfl
      omega
    have hget:∀j,j < x0.size->cs[j]?=((Z1 x0).map (Value.int .u8))[j]?:=(by grind [Array.getElem?_append_left,List.map_map,bytesRow,Z1])
    have key:=hsim.newBlkF (d:=d) (size:=1) (rows:=(Z1 x0).map ty.c) (cs:=cs) (e:=e) (fz:=(cs.size,cs.size+1)) (w1:=w.drew.alloc (.cells cs e (cs.size,cs.size+1))) (by decide) hu rfl (by grind) ⟨rfl,rfl,rfl⟩
      (by grind) (by grind) (λj c hj=>by
        rw[hfl,zV] at hj
        obtain⟨y,hy,rfl⟩:=zw.1 hj
        have hlt:j < x0.size:=by grind
        exact⟨.int .u8 y,by grind,.data (.int _ _),rfl,rfl⟩)
    refine⟨.slice (some ⟨w.heap.size,0,none⟩) x0.size N,_,γ.add d w.heap.size,?_,key.2.1,key.2.2.pin,?_⟩
    · have e3 : (execOp a.eval x) = (do let v <- convert s t (a.eval ox); pure (.value v) : Sem Next) := by unfold execOp; rw [hop]
      simp_all
    · rw[hdst]
      have hb':=key.1.put (a:=a) (dst:=some d) (c:=.ref d 0 (Z1 x0).length) (v:=.slice (some ⟨w.heap.size,0,none⟩) x0.size N) (by grind [H7,St.setB]) (by
        have:=Rep.ref (γ:=γ.add d w.heap.size) (w:=w.drew.alloc (.cells cs e (cs.size,cs.size+1))) (bs:=(st.setB d ⟨1,true,(Z1 x0).map ty.c⟩).b) (u:=(st.setB d ⟨1,true,(Z1 x0).map ty.c⟩).u)
          d 0 (Z1 x0).length w.heap.size 0 N ⟨1,true,(Z1 x0).map ty.c⟩ (by simp[St.setB]) (by simp[Gh.add]) (by simp) (by grind) ⟨cs,e,(cs.size,cs.size+1),Array.getElem?_push_size,by rw[hsz];simp⟩ (by show 1 < J8;decide) (by grind)
        grind)
      exact hb'
end
end Go.EV
