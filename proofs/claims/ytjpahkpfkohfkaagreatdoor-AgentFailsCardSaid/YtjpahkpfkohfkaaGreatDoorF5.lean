/- Guided execution: the steps that change only how a state is told are right; no conditions. Guided execution: the executor is right: if what is found ..; no conditions. -/
import Derived.Test.YtjpahkpfkohfkaaGreatDoorF4
import Derived.Test.YtjpahkpfkohfkaaGreatDoorF2
import Derived.RangeFuncRecord
import Derived.MapKept
import Derived.Test.YtjpahkpfkohfkaaGreatDoorF1
import Derived.KernelRfl
set_option linter.unusedVariables false
set_option linter.unusedSimpArgs false
namespace Go.EV
open Go
theorem find_map{α β:Type}(f:Nat→Nat)(h:Nat×α→β)(c c':Nat):∀(l:List (Nat×α)),(∀p,p∈l→(f p.1=c↔p.1=c'))→(l.map fun p=>(f p.1,h p)).find? (fun x=>x.1==c)=(l.find? fun x=>x.1==c').map fun p=>(f p.1,h p)
 | [],_=>rfl
 | p :: l,hp=>by
  have ih:=find_map f h c c' l fun q hq=>hp q (by simp[hq])
  have h0:=hp p (by simp)
  simp only[ξf]
  by_cases hc:p.1=c'
  ·rw[List.find?_cons_of_pos (by simpa using h0.2 hc),List.find?_cons_of_pos (by simpa using hc)];rfl
  ·rw[ξg (by simpa using fun e=>hc (h0.1 e)),ξg (by simpa using hc),ih]
theorem S3{α β:Type}(h:Nat×α→β)(c:Nat)(l:List (Nat×α)):(l.map fun p=>(p.1,h p)).find? (fun x=>x.1==c)=(l.find? fun x=>x.1==c).map fun p=>(p.1,h p):=
 find_map (fun x=>x) h c c l fun _ _=>Iff.rfl
theorem D.st_b(d:D)(b:Nat):d.st.b b=(match d.bs.find? (fun p=>p.1==b) with|some p=>some p.2|none=>none):=rfl
theorem D.st_t(d:D)(b:Nat):d.st.t b=(match d.ts.find? (fun p=>p.1==b) with|some p=>p.2|none=>.undef):=rfl
theorem P7{b:Nat}{us:List Nat}(c:Nat):okU (b :: us) c=if c=b then true else okU us c:=by
 by_cases h:c=b
 ·subst h;simp[okU]
 ·simp[okU,h]
mutual
theorem okV_ren{u u':Nat→Bool}{f:Nat→Nat}(h:∀b,u b=true→u' (f b)=true):∀c:V,okV u c=true→okV u' (W5 f c)=true
 | .int _ _,_=>rfl
 | .bool _,_=>rfl
 | .str _,_=>rfl
 | .nilp,_=>rfl
 | .nilf,_=>rfl
 | .yld _,_=>rfl
 | .nilsl,_=>rfl
 | .ifc _,_=>rfl
 | .sl _ _ _,_=>rfl
 | .snap _,_=>rfl
 | .undef,_=>rfl
 | .ref b _ _,hc=>by simp only[W5,okV] at hc ⊢;exact h b hc
 | .ptr b _ _,hc=>by simp only[W5,okV] at hc ⊢;exact h b hc
 | .mp b,hc=>by simp only[W5,okV] at hc ⊢;exact h b hc
 | .fn _ a c,hc=>by
  simp only[W5,okV,ζA] at hc ⊢
  exact⟨okL_ren h a hc.1,okL_ren h c hc.2⟩
 | .agg l,hc=>by simp only[W5,okV] at hc ⊢;exact okL_ren h l hc
 | .tup l,hc=>by simp only[W5,okV] at hc ⊢;exact okL_ren h l hc
theorem okL_ren{u u':Nat→Bool}{f:Nat→Nat}(h:∀b,u b=true→u' (f b)=true):∀l:List V,okL u l=true→okL u' (F0 f l)=true
 | [],_=>rfl
 | c :: l,hc=>by
  simp only[F0,okL,ζA] at hc ⊢
  exact⟨okV_ren h c hc.1,okL_ren h l hc.2⟩
end
theorem okL_all{u:Nat→Bool}:∀{l:List V},okL u l=true↔∀c,c∈l→okV u c=true
 | []=>by simp[okL]
 | c :: l=>by simp[okL,okL_all (l:=l)]
theorem ren_spec{G:Nat→Option (List V)}{d:D}{a b:Nat}{next:D→C}{X:C}(h:ghX (.ren a b) d next=X)(hX:∀j,C.stuck j≠X)(hd:d.Ok):∃d':D,next d'=X∧d'.Ok∧Gst G d.st d'.st∧d'.n=d.n:=by
 simp only[ghX] at h
 split at h
 rotate_left
 ·exact absurd h (hX _)
 rename_i hub hab
 simp only[ζY,ne_eq] at hab
 simp only[nrmT_eq,nrmB_eq] at h
 refine⟨_,h,?_⟩
 have hno:∀p,p∈d.bs→p.1≠b:=fun p hp e=>by
  cases hf:d.bs.find? (fun x=>x.1==b) with
  | none=>exact find_none hf p hp e
  | some q=>
   have:=(hd.blk (b:=b) (k:=q.2) (by rw[D.st_b,hf])).1
   rw[hub] at this;simp at this
 have hdata:∀p,d.bs.find? (fun x=>x.1==p.1)=some p→p.1∈d.sy→U8 p.2.rows:=fun p hp hs=>hd.sy p.1 hs p.2 (by rw[D.st_b,hp])
 have fb:∀p,p∈d.bs→(W3 a b p.1=b↔p.1=a):=fun p hp=>by
  unfold W3
  split
  ·rename_i e;simp[e]
  ·rename_i e;exact⟨fun h=>absurd h (hno p hp),fun h=>absurd h e⟩
 have key:∀c c',(∀p,p∈d.bs→(W3 a b p.1=c↔p.1=c'))→(match (d.bs.map fun p=>(W3 a b p.1,renB d.sy p.1 (W3 a b) p.2)).find? (fun x=>x.1==c) with|some p=>some p.2|none=>none)=(d.st.b c').map (Blk.ren (W3 a b)):=fun c c' hc=>by
  rw[find_map (W3 a b) (fun p=>renB d.sy p.1 (W3 a b) p.2) c c' d.bs hc,D.st_b]
  cases hf:d.bs.find? (fun x=>x.1==c') with
  | none=>rfl
  | some p=>
   simp only[ζZ]
   rw[renB_eq fun hm=>hdata p (by rw[(D8 hf).2];exact hf) hm]
 have e:(D.st ⟨d.n,d.ts.map fun p=>(p.1,W5 (W3 a b) p.2),d.bs.map fun p=>(W3 a b p.1,renB d.sy p.1 (W3 a b) p.2),b :: d.us,(d.sy.filter fun x=>!(x==b)).map (W3 a b)⟩)=d.st.renm a b:=by
  unfold D.st St.renm
  simp only[G0,St.mk.injEq,true_and]
  refine⟨funext fun i=>?_,funext fun c=>?_,funext fun c=>?_⟩
  ·rw[S3 (fun p=>W5 (W3 a b) p.2)]
   cases d.ts.find? (fun x=>x.1==i)<;>rfl
  ·by_cases hcb:c=b
   ·subst hcb
    rw[if_pos rfl]
    exact key c a fb
   ·rw[if_neg hcb]
    by_cases hca:c=a
    ·subst hca
     rw[if_pos rfl]
     have:(d.bs.map fun p=>(W3 c b p.1,renB d.sy p.1 (W3 c b) p.2)).find? (fun x=>x.1==c)=none:=List.find?_eq_none.2 fun x hx hxe=>by
      obtain⟨p,hp,rfl⟩:=ζt.1 hx
      simp only[W3,beq_iff_eq] at hxe
      split at hxe
      ·exact hab hxe.symm
      ·rename_i hne;exact hne hxe
     rw[this]
    ·rw[if_neg hca]
     refine key c c fun p hp=>?_
     unfold W3
     split
     ·rename_i e;rw[e];exact⟨fun h=>absurd h.symm hcb,fun h=>absurd h.symm hca⟩
     ·exact Iff.rfl
  ·have:=P7 (b:=b) (us:=d.us) c
   exact this
 have mu:∀c,okU d.us c=true→okU (b :: d.us) (W3 a b c)=true:=fun c hc=>by
  unfold W3
  split
  ·simp[okU]
  ·rw[P7];split;rfl;exact hc
 refine⟨⟨fun i=>?_,fun {c k} hk=>?_,?_⟩,?_,rfl⟩
 ·rw[e];exact okV_ren mu _ (hd.tmp i)
 ·rw[e] at hk
  simp only[St.renm] at hk
  have go:∀y k0,d.st.b y=some k0→okU (b :: d.us) (W3 a b y)=true∧∀r,r∈(k0.ren (W3 a b)).rows→∀c,c∈r→okV (okU (b :: d.us)) c=true:=fun y k0 h0=>by
   obtain⟨h1,h2⟩:=hd.blk h0
   refine⟨mu _ h1,fun r hr c hc=>?_⟩
   simp only[Blk.ren] at hr
   obtain⟨r0,hr0,rfl⟩:=ζt.1 hr
   rw[renL_eq] at hc
   obtain⟨c0,hc0,rfl⟩:=ζt.1 hc
   exact okV_ren mu _ (h2 r0 hr0 c0 hc0)
  by_cases hcb:c=b
  ·subst hcb
   rw[if_pos rfl] at hk
   obtain⟨k0,h1,rfl⟩:=ζb.1 hk
   have:=go a k0 h1
   rwa [show W3 a c a=c by simp[W3]] at this
  ·rw[if_neg hcb] at hk
   split at hk
   ·simp at hk
   ·rename_i hca
    obtain⟨k0,h1,rfl⟩:=ζb.1 hk
    have:=go c k0 h1
    rwa [show W3 a b c=c by simp[W3,hca]] at this
 ·rw[e]
  intro x hx k hk
  obtain⟨y,hy,rfl⟩:=ζt.1 hx
  obtain⟨hy1,hy2⟩:=List.mem_filter.1 hy
  simp only[ζB,ζY,ne_eq] at hy2
  have src:∃k0,d.st.b y=some k0∧k=k0.ren (W3 a b):=by
   simp only[St.renm] at hk
   by_cases hya:y=a
   ·subst hya
    have e2:W3 y b y=b:=by simp[W3]
    rw[e2,if_pos rfl] at hk
    obtain⟨k0,h1,h2⟩:=ζb.1 hk
    exact⟨k0,h1,h2.symm⟩
   ·have e2:W3 a b y=y:=by simp[W3,hya]
    rw[e2,if_neg hy2,if_neg hya] at hk
    obtain⟨k0,h1,h2⟩:=ζb.1 hk
    exact⟨k0,h1,h2.symm⟩
  obtain⟨k0,h1,rfl⟩:=src
  have:=hd.sy y hy1 k0 h1
  rw[this.ren];exact this
 ·rw[e]
  exact Gst.renm hab hub
theorem drop_spec{G:Nat→Option (List V)}{d:D}{l:List Nat}{next:D→C}{X:C}(h:ghX (.drop l) d next=X)(hX:∀j,C.stuck j≠X)(hd:d.Ok):∃d':D,next d'=X∧d'.Ok∧Gst G d.st d'.st∧d'.n=d.n:=by
 simp only[ghX] at h
 split at h
 rotate_left
 ·exact absurd h (hX _)
 rename_i hall
 simp only[ζE,ζA] at hall
 refine⟨_,h,?_⟩
 have blkOk:∀p,p∈d.bs.filter (fun p=>!l.contains p.1)→d.bs.find? (fun x=>x.1==p.1)=some p→∀r,r∈p.2.rows→∀c,c∈r→okV (okU (d.us.filter fun b=>!l.contains b)) c=true:=fun p hp hf r hr c hc=>by
  have:=(hall p hp).2
  simp only[blkOkB,ζX,ζD,ζF,ζE] at this
  rcases this with h1|h1
  ·exact G7 (hd.sy p.1 h1 p.2 (by rw[D.st_b,hf]) r hr c hc) _
  ·have:=h1 r hr c hc
   simpa using this
 have F:G3 d.st (G0 d.n (d.ts.filter fun p=>okV (okU (d.us.filter fun b=>!l.contains b)) (d.st.t p.1)) (d.bs.filter fun p=>!l.contains p.1) (d.us.filter fun b=>!l.contains b)):=by
  refine⟨rfl,fun i=>?_,fun b=>?_,fun b hb=>okU_top (uPin_le hb)⟩
  ·rw[stOf_t]
   cases hq:okV (okU (d.us.filter fun b=>!l.contains b)) (d.st.t i) with
   | false=>rw[E4 (q:=fun j=>okV (okU (d.us.filter fun b=>!l.contains b)) (d.st.t j)) hq];exact .inl rfl
   | true=>
    rw[E3 (q:=fun j=>okV (okU (d.us.filter fun b=>!l.contains b)) (d.st.t j)) hq]
    exact .inr ⟨rfl,hq⟩
  ·rw[stOf_b]
   cases hq:(!l.contains b) with
   | false=>rw[E4 (q:=fun j=>!l.contains j) hq];exact .inl rfl
   | true=>
    rw[E3 (q:=fun j=>!l.contains j) hq]
    refine .inr ⟨rfl,fun k hk=>?_⟩
    rw[D.st_b] at hk
    split at hk
    ·rename_i p hp
     simp only[ζa] at hk
     subst hk
     obtain⟨h1,rfl⟩:=D8 hp
     have hm:p∈d.bs.filter fun p=>!l.contains p.1:=List.mem_filter.2 ⟨h1,hq⟩
     exact⟨(hall p hm).1,blkOk p hm hp⟩
    ·simp at hk
 refine⟨D.Ok.of_forget F fun b hb k hk=>?_,Gst.forget F,rfl⟩
 rcases F.b b with e|⟨e,_⟩
 ·have:(none:Option Blk)=some k:=e.symm.trans hk
  simp at this
 ·exact hd.sy b hb k (e.symm.trans hk)
theorem mapO_some_map{f:V→Option V}{g:V→V}:∀{l r:List V},K7 f l=some r→(∀c,c∈l→f c=some (g c))→r=l.map g
 | [],r,h,_=>by simp[K7] at h;exact h
 | c :: l,r,h,hg=>by
  simp only[K7,hg c (by simp)] at h
  split at h
  ·rename_i y r' h1 h2
   simp only[ζa] at h h1
   subst h1 h
   rw[mapO_some_map h2 fun c hc=>hg c (by simp[hc])];rfl
  ·simp at h
theorem onlyCell_dcell{look:Nat→Option Blk}{c:V}(h:U5 c=true):D4 (M9 look 1 c)=some c.strip:=by
 cases c<;>simp_all [U5,M9,D4,V.strip]
 obtain⟨rfl,rfl⟩:=h
 simp[K7]
theorem Ty.d_eq{α:Type}(t:Ty α)(x:α):t.d x=(t.c x).map V.strip:=
 mapO_some_map (t.vw (fun _=>none) x) fun c hc=>onlyCell_dcell (ζE.1 (t.cd x) c hc)
theorem W2.strip{lim:Nat→Nat}{w:World}{c:V}{v:Value}(h:W2 lim w c v):W2 lim w c.strip v:=by
 cases c<;>try exact h
 exact h.unown
theorem Ty.repD{α:Type}(t:Ty α){lim:Nat→Nat}{w:World}{o:Bool}{z:Nat}{l:List α}{v:Value}(h:W2 lim w (.sl o z (l.map t.c)) v):W2 lim w (.sl false z (l.map t.d)) v:=by
 have e:l.map t.d=(l.map t.c).map (·.map V.strip):=by
  rw[ζq];exact ξi fun x _=>t.d_eq x
 have hlen:(l.map t.d).length=(l.map t.c).length:=by simp
 generalize hg:l.map t.c=rows at h e hlen
 cases h with
 | sl _ _ _ B o cap vs h1 h2 h3 h4=>
  have:=W2.sl (lim:=lim) (w:=w) false z (l.map t.d) B o cap vs (by rw[hlen];exact h1) (fun r hr=>by
    rw[e] at hr
    obtain⟨r0,hr0,rfl⟩:=ζt.1 hr
    simpa using h2 r0 hr0) (fun i c hc=>by
    rw[e,I9,ζo,ζb] at hc
    obtain⟨c0,k1,rfl⟩:=hc
    exact h3 i c0 k1) (fun i c hc=>by
    rw[e,I9,ζo,ζb] at hc
    obtain⟨c0,k1,rfl⟩:=hc
    exact(h4 i c0 k1).strip)
  rw[hlen] at this
  exact this
 | slNil _ _ a=>
  rw[e];exact .slNil false z a
theorem shD_good{st:St}{b:Nat}{k:Blk}{α:Type}{t:Ty α}{l:List α}:∀(n:Nat) (c:V),(∀e,e∈shE b k.rows n c→k.rows.take e.2.2=l.map t.c)→ShGood st b k (shD b k.size (l.map t.d) n) c
 | 0,c,_=>fun γ γ' w bs' u' h1 h2 map v hr=>by
  show Rep γ' w bs' u' .undef v
  exact .undef v
 | n+1,c,he=>fun γ γ' w bs' u' h1 h2 map v hr=>by
  have ih:=shD_good (st:=st) (b:=b) (k:=k) (t:=t) (l:=l) n
  have sub:∀(cs:List V),(∀e,e∈cs.flatMap (shE b k.rows n)→k.rows.take e.2.2=l.map t.c)→∀(vs:List Value),vs.length=cs.length→(∀(i:Nat) (c:V) (v:Value),cs[i]?=some c→vs[i]?=some v→Rep γ w st.b st.u c v)→
    ∀(i:Nat) (c:V) (v:Value),(cs.map (shD b k.size (l.map t.d) n))[i]?=some c→vs[i]?=some v→Rep γ' w bs' u' c v:=fun cs hcs vs hl hv i c v hc hx=>by
   rw[ζo,ζb] at hc
   obtain⟨c0,k1,rfl⟩:=hc
   exact ih c0 (fun e hee=>hcs e (ξb.2 ⟨c0,ζi k1,hee⟩)) γ γ' w bs' u' h1 h2 map v (hv i c0 v k1 hx)
  cases c<;>simp only[shD]
  case ref b' off len=>
   split
   ·rename_i hb
    have hb':b'=b:=by simpa using hb
    subst hb'
    split
    ·have hl:k.rows.take len=l.map t.c:=he (b',k.rows,len) (by simp[shE])
     have:=map (.ref b' 0 len) v hr
     simp only[shV,if_true,List.drop_zero] at this
     rw[hl] at this
     cases this with
     | data h=>exact .data (t.repD h)
    ·
     cases hr with
     | data h=>cases h
     | ref=>exact .deadRef _ _ _ _ h1 h2 rfl
     | refE=>exact .deadRef _ _ _ _ h1 h2 rfl
     | refN=>exact .deadRef _ _ _ _ h1 h2 rfl
     | deadRef _ _ _ _ _ _ h3=>exact .deadRef _ _ _ _ h1 h2 h3
   ·rename_i hb
    have:=map (.ref b' off len) v hr
    simp only[shV] at this
    rwa [if_neg (by simpa using hb)] at this
  case fn f x y=>
   obtain⟨fs,cs,rfl,l1,l2,p1,p2⟩:=hr.fn_inv
   simp only[shE] at he
   exact .fn f _ _ fs cs (by simpa using l1) (by simpa using l2) (sub x (fun e hee=>he e (ξd _ hee)) fs l1 p1) (sub y (fun e hee=>he e (List.mem_append_right _ hee)) cs l2 p2)
  case agg cs=>
   obtain⟨vs,rfl,l1,p1⟩:=hr.agg_inv
   exact .agg _ vs (by simpa using l1) (sub cs he vs l1 p1)
  case tup cs=>
   obtain⟨vs,rfl,l1,p1⟩:=hr.tup_inv
   exact .tup _ vs (by simpa using l1) (sub cs he vs l1 p1)
  all_goals exact map _ v hr
theorem shD_dcell{b z:Nat}{rows:List (List V)}{n:Nat}{c:V}(h:U5 c=true):shD b z rows (n+1) c=c:=by
 cases c<;>simp_all [U5,shD]
theorem shD_own(b z:Nat)(rows:List (List V)):∀(n:Nat) (c:V),(shD b z rows n c).isOwn=true→shD b z rows n c=c
 | 0,c,h=>by simp[shD,V.isOwn] at h
 | n+1,c,h=>by
  cases c<;>simp only[shD] at h ⊢
  all_goals first|(simp[V.isOwn] at h;done)|skip
  case ref b' off len=>
   split at h
   ·split at h<;>simp[V.isOwn] at h
   ·simp[V.isOwn] at h
theorem shD_okV{u u':Nat→Bool}(h:∀b,u b=true→u' b=true)(b z:Nat)(rows:List (List V)):∀(n:Nat) (c:V),okV u c=true→okV u' (shD b z rows n c)=true
 | 0,c,_=>rfl
 | n+1,c,hc=>by
  have ih:=shD_okV h b z rows n
  have lst:∀l:List V,okL u l=true→okL u' (l.map (shD b z rows n))=true:=fun l hl=>okL_all.2 fun c hc=>by
   obtain⟨c0,h0,rfl⟩:=ζt.1 hc
   exact ih c0 (okL_all.1 hl c0 h0)
  cases c<;>simp only[shD,okV,ζA] at hc ⊢
  case ref b' off len=>
   split
   ·split
    ·rfl
    ·exact h _ hc
   ·exact h _ hc
  case ptr=>exact h _ hc
  case mp=>exact h _ hc
  case fn f x y=>exact⟨lst x hc.1,lst y hc.2⟩
  case agg l=>exact lst l hc
  case tup l=>exact lst l hc
theorem share_spec{G:Nat→Option (List V)}{d:D}{v:VwW}{vn:Nat}{next:D→C}{X:C}(h:ghX (.share v vn) d next=X)(hX:∀j,C.stuck j≠X)(he:ghE (.share v vn) d=List.replicate (vn+1) v.eqn)(hd:d.Ok) :
  ∃d':D,next d'=X∧d'.Ok∧Gst G d.st d'.st∧d'.n=d.n:=by
 simp only[ghX] at h
 split at h
 rotate_left
 ·exact absurd h (hX _)
 rename_i k hk
 split at h
 rotate_left
 ·exact absurd h (hX _)
 rename_i hdat
 simp only[nrmT_eq,nrmB_eq] at h
 refine⟨_,h,?_⟩
 simp only[ghE,hk] at he
 have hdata:U8 k.rows:=by
  simp only[ζX,ζD,ζF,ζE] at hdat
  rcases hdat with h1|h1
  ·exact hd.sy v.b h1 k hk
  ·exact fun r hr c hc=>h1 r hr c hc
 let g:=shD v.b k.size (v.l.map v.ty.d) 6
 have rowsE:∀(n:Nat) (c:V) (e:Nat×List (List V)×Nat),e∈shE v.b k.rows n c→e.2.1=k.rows:=by
  intro n
  induction n with
  | zero=>intro c e h;simp[shE] at h
  | succ n ih=>
   intro c e h
   have fl:∀l:List V,e∈l.flatMap (shE v.b k.rows n)→e.2.1=k.rows:=fun l hl=>by
    obtain⟨x,_,hx⟩:=ξb.1 hl
    exact ih x e hx
   cases c<;>simp only[shE,ζw] at h
   case ref b' off len=>
    split at h
    ·split at h
     ·simp only[ζu] at h;subst h;rfl
     ·simp at h
    ·simp at h
   case fn f x y=>
    rcases ζr.1 h with h|h
    ·exact fl _ h
    ·exact fl _ h
   case agg l=>exact fl _ h
   case tup l=>exact fl _ h
 let E:=(d.ts.flatMap fun p=>shE v.b k.rows 6 p.2)++d.bs.flatMap fun p=>match p.1==v.b || d.sy.contains p.1 with
   | true=>[]
   | false=>p.2.rows.flatMap fun r=>r.flatMap (shE v.b k.rows 6)
 have hE:E=List.replicate (vn+1) v.eqn:=he
 have allRows:∀e,e∈E→e.2.1=k.rows:=fun e hm=>by
  rcases ζr.1 hm with hm|hm
  ·obtain⟨p,_,hx⟩:=ξb.1 hm
   exact rowsE 6 _ e hx
  ·obtain⟨p,_,hx⟩:=ξb.1 hm
   split at hx
   ·simp at hx
   ·obtain⟨r,_,hx⟩:=ξb.1 hx
    obtain⟨c,_,hx⟩:=ξb.1 hx
    exact rowsE 6 _ e hx
 have hlens:∀e,e∈E→k.rows.take e.2.2=v.l.map v.ty.c:=fun e hm=>by
  have h1:=allRows e hm
  rw[hE] at hm
  obtain rfl:=(List.mem_replicate.1 hm).2
  rw[←h1];exact v.h
 have good:∀c,(∀e,e∈shE v.b k.rows 6 c→e∈E)→ShGood d.st v.b k g c:=fun c hc=>shD_good (t:=v.ty) (l:=v.l) 6 c fun e hm=>hlens e (hc e hm)
 have goodData:∀c,U5 c=true→ShGood d.st v.b k g c:=fun c hc γ γ' w bs' u' h1 h2 map x hr=>by
  show Rep γ' w bs' u' (shD v.b k.size (v.l.map v.ty.d) (5+1) c) x
  rw[shD_dcell hc]
  have:=map c x hr
  cases c<;>first|exact this|simp[U5] at hc
 have e:(D.st ⟨d.n,d.ts.map (fun p=>(p.1,shD v.b k.size (v.l.map v.ty.d) 6 p.2)),shareBs d v k,v.b :: d.us,d.sy⟩)=d.st.shr v.b g:=by
  unfold D.st St.shr
  simp only[G0,St.mk.injEq,true_and]
  refine⟨funext fun i=>?_,funext fun c=>?_,funext fun c=>P7 c⟩
  ·rw[S3 (fun p=>shD v.b k.size (v.l.map v.ty.d) 6 p.2)]
   cases d.ts.find? (fun x=>x.1==i)<;>rfl
  ·unfold shareBs
   rw[S3]
   by_cases hc:c=v.b
   ·subst hc
    rw[if_pos rfl,E4 (q:=fun j=>!(j==v.b)) (by simp)];rfl
   ·rw[if_neg hc,E3 (q:=fun j=>!(j==v.b)) (by simpa using hc)]
    cases hf:d.bs.find? (fun x=>x.1==c) with
    | none=>rfl
    | some p=>
     simp only[ζZ,ζa]
     split
     ·rename_i hs
      have hdr:U8 p.2.rows:=hd.sy p.1 (by simpa using hs) p.2 (by rw[D.st_b,(D8 hf).2,hf])
      have:p.2.rows.map (·.map g)=p.2.rows:=by
       conv=>rhs;rw[←List.map_id p.2.rows]
       refine ξi fun r hr=>?_
       show r.map g=r
       conv=>rhs;rw[←List.map_id r]
       exact ξi fun c hc=>shD_dcell (hdr r hr c hc)
      show p.2={ p.2 with rows:=p.2.rows.map (·.map g) }
      rw[this]
     ·rfl
 have gs:=Gst.shr (G:=G) (st:=d.st) hk hdata (g:=g) (fun i=>by
   rw[D.st_t]
   split
   ·rename_i p hp
    exact good _ fun e hm=>ξd _ (ξb.2 ⟨p,(D8 hp).1,hm⟩)
   ·exact fun γ γ' w bs' u' _ _ _ v _=>.undef v)
  (fun x q hx hq r hr c hc=>by
   rw[D.st_b] at hq
   split at hq
   ·rename_i p hp
    simp only[ζa] at hq
    subst hq
    obtain⟨hp1,rfl⟩:=D8 hp
    cases hs:d.sy.contains p.1 with
    | true=>exact goodData c (hd.sy p.1 (by simpa using hs) p.2 (by rw[D.st_b,hp]) r hr c hc)
    | false=>
     refine good c fun e hm=>List.mem_append_right _ (ξb.2 ⟨p,hp1,?_⟩)
     have:(p.1==v.b)=false:=by simpa using hx
     rw[this,hs]
     exact ξb.2 ⟨r,hr,ξb.2 ⟨c,hc,hm⟩⟩
   ·simp at hq) (shD_own _ _ _ 6)
 have mu:∀c,okU d.us c=true→okU (v.b :: d.us) c=true:=fun c hc=>by rw[P7];split;rfl;exact hc
 refine⟨⟨fun i=>?_,fun {c q} hq=>?_,fun x hx q hq=>?_⟩,by rw[e];exact gs,rfl⟩
 ·rw[e];exact shD_okV mu _ _ _ 6 _ (hd.tmp i)
 ·rw[e] at hq
  simp only[St.shr] at hq
  split at hq
  ·simp at hq
  obtain⟨q0,h0,rfl⟩:=ζb.1 hq
  obtain⟨h1,h2⟩:=hd.blk h0
  refine⟨mu _ h1,fun r hr c hc=>?_⟩
  obtain⟨r0,hr0,rfl⟩:=ζt.1 hr
  obtain⟨c0,hc0,rfl⟩:=ζt.1 hc
  exact shD_okV mu _ _ _ 6 _ (h2 r0 hr0 c0 hc0)
 ·rw[e] at hq
  simp only[St.shr] at hq
  split at hq
  ·simp at hq
  obtain⟨q0,h0,rfl⟩:=ζb.1 hq
  have hdr:=hd.sy x hx q0 h0
  intro r hr c hc
  obtain⟨r0,hr0,rfl⟩:=ζt.1 hr
  obtain⟨c0,hc0,rfl⟩:=ζt.1 hc
  have:=hdr r0 hr0 c0 hc0
  rw[show g c0=c0 from shD_dcell this];exact this
theorem virtC_spec{G:Nat→Option (List V)}{d:D}{b x j size:Nat}{next:D→C}{X:C}(h:ghX (.virtC b x j size) d next=X)(hX:∀j,C.stuck j≠X)(hd:d.Ok):∃d':D,next d'=X∧d'.Ok∧Gst G d.st d'.st∧d'.n=d.n:=by
 simp only[ghX] at h
 split at h
 rotate_left
 ·exact absurd h (hX _)
 rename_i k hk hub hsy
 simp only[Bool.or_eq_false_iff,ζC,ζF] at hub
 obtain⟨hub,hM⟩:=hub
 split at h
 rotate_left
 ·exact absurd h (hX _)
 rename_i r rs hrows
 split at h
 rotate_left
 ·exact absurd h (hX _)
 rename_i hcell
 refine⟨_,h,?_⟩
 have hxb:x≠b:=fun e=>by subst e;have:=(hd.blk hk).1;rw[hub] at this;simp at this
 have hsx:¬x∈d.sy:=by simpa using hsy
 let d':D:={ d with bs:=(b,⟨size,true,[]⟩) :: (x,setCell k j (.ref b 0 0)) :: d.bs.filter (fun p=>!(p.1==x)),us:=b :: d.us }
 have bb:d'.st.b b=some ⟨size,true,[]⟩:=by simp[D.st_b,d']
 have bx:d'.st.b x=some (setCell k j (.ref b 0 0)):=by
  rw[D.st_b]
  simp only[d']
  rw[ξg (by simpa using fun e=>hxb e.symm),List.find?_cons_of_pos (by simp)]
 have bo:∀c,c≠b→c≠x→d'.st.b c=d.st.b c:=fun c h1 h2=>by
  rw[D.st_b,D.st_b]
  simp only[d']
  rw[ξg (by simpa using fun e=>h1 e.symm),ξg (by simpa using fun e=>h2 e.symm),E3 (q:=fun j=>!(j==x)) (by simpa using h2)]
 have hbn:d.st.b b=none:=by
  cases hb:d.st.b b with
  | none=>rfl
  | some q=>have:=(hd.blk hb).1;rw[hub] at this;simp at this
 have hset:(setCell k j (.ref b 0 0)).rows=r.set j (.ref b 0 0) :: rs:=by simp[setCell,hrows]
 have mu:∀c,okU d.us c=true→okU (b :: d.us) c=true:=fun c hc=>by rw[P7];split;rfl;exact hc
 have g2:Gst G (d.st.setB b ⟨size,true,[]⟩) d'.st:=by
  refine Gst.cells rfl (funext fun c=>?_) (fun i=>Wk.refl _) fun c=>?_
  ·exact P7 c
  ·by_cases hcb:c=b
   ·subst hcb
    refine .inr ⟨⟨size,true,[]⟩,⟨size,true,[]⟩,by simp[St.setB],bb,rfl,rfl,rfl,fun i r' h=>by simp at h⟩
   ·by_cases hcx:c=x
    ·subst hcx
     refine .inr ⟨k,setCell k j (.ref b 0 0),by simp[St.setB,hcb,hk],bx,rfl,rfl,by rw[hset,hrows];rfl,fun i r' hr'=>?_⟩
     rw[hset] at hr'
     rw[hrows]
     cases i with
     | zero=>
      simp only[ξo,ζa] at hr'
      subst hr'
      refine⟨r,rfl,by simp,fun q c' hc'=>?_⟩
      by_cases hq:q=j
      ·subst hq
       have hlt:q < r.length:=(ζe.1 hcell).1
       rw[ζj hlt] at hc'
       simp only[ζa] at hc'
       subst hc'
       refine⟨.nilsl,hcell,fun γ w v hv=>?_,fun ho=>by simp[V.isOwn] at ho⟩
       have:=hv.nilsl_inv;subst this
       exact .refN b 0 ⟨size,true,[]⟩ bb hM rfl
      ·rw[ζk (fun e=>hq e.symm)] at hc'
       exact⟨c',hc',Wk.refl _,fun _=>.inl rfl⟩
     | succ i=>
      simp only[List.getElem?_cons_succ] at hr'
      exact⟨r',by simpa using hr',rfl,fun q c' hc'=>⟨c',hc',Wk.refl _,fun _=>.inl rfl⟩⟩
    ·cases hc:d.st.b c with
     | none=>exact .inl ⟨by simp[St.setB,hcb,hc],by rw[bo c hcb hcx,hc]⟩
     | some q=>
      exact .inr ⟨q,q,by simp[St.setB,hcb,hc],by rw[bo c hcb hcx,hc],rfl,rfl,rfl,fun i r' hr'=>⟨r',hr',rfl,fun p c' hc'=>⟨c',hc',Wk.refl _,fun _=>.inl rfl⟩⟩⟩
 refine⟨⟨fun i=>O7 mu _ (hd.tmp i),fun {c q} hq=>?_,fun c hc q hq=>?_⟩,(Gst.addB size hub).trans g2,rfl⟩
 ·have hq':d'.st.b c=some q:=hq
  by_cases hcb:c=b
  ·subst hcb
   rw[bb] at hq';simp only[ζa] at hq';subst hq'
   exact⟨by simp[okU],fun r hr=>by simp at hr⟩
  ·by_cases hcx:c=x
   ·subst hcx
    rw[bx] at hq';simp only[ζa] at hq';subst hq'
    obtain⟨h1,h2⟩:=hd.blk hk
    refine⟨mu _ h1,fun r' hr' c' hc'=>?_⟩
    rw[hset] at hr'
    simp only[ζv] at hr'
    rcases hr' with rfl|hr'
    ·rcases ξc hc' with hc'|rfl
     ·exact O7 mu _ (h2 r (by simp[hrows]) c' hc')
     ·simp[okV,okU]
    ·exact O7 mu _ (h2 r' (by simp[hrows,hr']) c' hc')
   ·rw[bo c hcb hcx] at hq'
    obtain⟨h1,h2⟩:=hd.blk hq'
    exact⟨mu _ h1,fun r hr c hc=>O7 mu _ (h2 r hr c hc)⟩
 ·have hq':d'.st.b c=some q:=hq
  by_cases hcb:c=b
  ·subst hcb
   rw[bb] at hq';simp only[ζa] at hq';subst hq'
   intro r hr;simp at hr
  ·have hcx:c≠x:=fun e=>hsx (e▸hc)
   rw[bo c hcb hcx] at hq'
   exact hd.sy c hc q hq'
theorem coeV_ok{u:Nat→Bool}:∀(n:Nat) (e c:V),okV u c=true→okV u (A8 n e c)=true
 | 0,_,_,h=>h
 | n+1,e,c,h=>by
  have lst:∀(es cs:List V),okL u cs=true→okL u (V8 (A8 n) es cs)=true:=by
   intro es cs
   induction cs generalizing es with
   | nil=>intro h;cases es<;>exact h
   | cons c cs ih=>
    intro h
    cases es with
    | nil=>exact h
    | cons e es=>
     simp only[V8,okL,ζA] at h ⊢
     exact⟨coeV_ok n e c h.1,ih es h.2⟩
  cases c<;>simp only[A8]<;>try exact h
  case nilsl=>split<;>rfl
  case sl=>split<;>rfl
  case agg cs=>
   split
   ·simp only[okV] at h ⊢;exact lst _ _ h
   ·exact h
  case tup cs=>
   split
   ·simp only[okV] at h ⊢;exact lst _ _ h
   ·exact h
theorem coeR_ok{u:Nat→Bool}:∀(es cs:List (List V)),(∀r,r∈cs→∀c,c∈r→okV u c=true)→∀r,r∈coeR es cs→∀c,c∈r→okV u c=true
 | [],cs,h=>by cases cs<;>exact h
 | _ :: _,[],_=>fun r hr=>by simp[coeR] at hr
 | e :: es,c :: cs,h=>fun r hr x hx=>by
  simp only[coeR,ζv] at hr
  rcases hr with rfl|hr
  ·obtain⟨i,hi⟩:=List.getElem?_of_mem hx
   obtain⟨y,h1,h2⟩:=coeL_get _ _ _ _ _ hi
   have hy:=h c (by simp) y (ζi h1)
   rcases h2 with rfl|⟨e',rfl⟩
   ·exact hy
   ·exact coeV_ok 8 e' y hy
  ·exact coeR_ok es cs (fun r hr=>h r (by simp[hr])) r hr x hx
theorem tell_spec{G:Nat→Option (List V)}{d:D}{b:Nat}{es:List (List V)}{next:D→C}{X:C}(h:ghX (.tell b es) d next=X)(hX:∀j,C.stuck j≠X)(hd:d.Ok):∃d':D,next d'=X∧d'.Ok∧Gst G d.st d'.st∧d'.n=d.n:=by
 simp only[ghX] at h
 split at h
 rotate_left
 ·exact absurd h (hX _)
 rename_i k hk hsy
 simp only[nrmB_eq] at h
 have hsb:¬b∈d.sy:=by simpa using hsy
 let d':D:={ d with bs:=(b,⟨k.size,k.excl,coeR es k.rows⟩) :: d.bs.filter (fun p=>!(p.1==b)) }
 have bb:d'.st.b b=some ⟨k.size,k.excl,coeR es k.rows⟩:=by simp[D.st_b,d']
 have bo:∀c,c≠b→d'.st.b c=d.st.b c:=fun c h1=>by
  rw[D.st_b,D.st_b]
  simp only[d']
  rw[ξg (by simpa using fun e=>h1 e.symm),E3 (q:=fun j=>!(j==b)) (by simpa using h1)]
 refine⟨d',h,⟨fun i=>hd.tmp i,fun {c q} hq=>?_,fun c hc q hq=>?_⟩,Gst.cells rfl rfl (fun i=>Wk.refl _) fun c=>?_,rfl⟩
 ·by_cases hcb:c=b
  ·subst hcb
   rw[bb] at hq;simp only[ζa] at hq;subst hq
   obtain⟨h1,h2⟩:=hd.blk hk
   exact⟨h1,coeR_ok _ _ h2⟩
  ·rw[bo c hcb] at hq
   exact hd.blk hq
 ·have hcb:c≠b:=fun e=>hsb (e▸hc)
  rw[bo c hcb] at hq
  exact hd.sy c hc q hq
 ·by_cases hcb:c=b
  ·subst hcb
   exact .inr ⟨k,_,hk,bb,rfl,rfl,coeR_rel _ _⟩
  ·cases hc:d.st.b c with
   | none=>exact .inl ⟨rfl,by rw[bo c hcb,hc]⟩
   | some q=>exact .inr ⟨q,q,rfl,by rw[bo c hcb,hc],rfl,rfl,W4.same (fun c=>CoeR.same c) _⟩
theorem virt_spec{G:Nat→Option (List V)}{d:D}{b t size:Nat}{next:D→C}{X:C}(h:ghX (.virt b t size) d next=X)(hX:∀j,C.stuck j≠X)(hd:d.Ok):∃d':D,next d'=X∧d'.Ok∧Gst G d.st d'.st∧d'.n=d.n:=by
 simp only[ghX] at h
 split at h
 rotate_left
 ·exact absurd h (hX _)
 rename_i ht hu
 simp only[Bool.or_eq_false_iff,ζC,ζF] at hu
 obtain⟨hu,hM⟩:=hu
 have mu:∀c,okU d.us c=true→okU (b :: d.us) c=true:=fun c hc=>by rw[P7];split;rfl;exact hc
 have e:(D.st { d with ts:=(t,.ref b 0 0) :: d.ts.filter (fun x=>!(x.1==t)),bs:=(b,⟨size,true,[]⟩) :: d.bs,us:=b :: d.us })=(d.st.setB b ⟨size,true,[]⟩).setT t (.ref b 0 0):=by
  unfold D.st St.setB St.setT
  simp only[G0,St.mk.injEq,true_and]
  refine⟨funext fun i=>?_,funext fun i=>?_,funext fun i=>?_⟩
  ·by_cases hi:i=t
   ·subst hi;simp
   ·rw[if_neg hi,ξg (by simpa using fun e=>hi e.symm),E3 (q:=fun j=>!(j==t)) (by simpa using hi)]
  ·by_cases hi:i=b
   ·subst hi;simp
   ·rw[if_neg hi,ξg (by simpa using fun e=>hi e.symm)]
  ·exact P7 i
 refine⟨_,h,⟨fun i=>?_,fun {c q} hq=>?_,fun c hc q hq=>?_⟩,by rw[e];exact Gst.virtT size hM hu ht,rfl⟩
 ·rw[e]
  show okV _ (if i=t then _ else d.st.t i)=true
  split
  ·simp[okV,okU]
  ·exact O7 mu _ (hd.tmp i)
 ·rw[e] at hq
  have hq':(if c=b then some (⟨size,true,[]⟩:Blk) else d.st.b c)=some q:=hq
  split at hq'
  ·rename_i hcb
   simp only[ζa] at hq'
   subst hq'
   exact⟨by simp[okU,hcb],fun r hr=>by simp at hr⟩
  ·obtain⟨h1,h2⟩:=hd.blk hq'
   exact⟨mu _ h1,fun r hr c hc=>O7 mu _ (h2 r hr c hc)⟩
 ·rw[e] at hq
  have hq':(if c=b then some (⟨size,true,[]⟩:Blk) else d.st.b c)=some q:=hq
  split at hq'
  ·simp only[ζa] at hq'
   subst hq'
   intro r hr;simp at hr
  ·exact hd.sy c hc q hq'
theorem G5{α:Type}{f:α→α}{l:List α}(h:∀x,x∈l→f x=x):l.map f=l:=by
 have:l.map f=l.map id:=ξi fun x hx=>h x hx
 rw[this,List.map_id]
theorem lnD_id{b m:Nat}:∀(n:Nat) (c:V),(∀e,e∈shE b [] n c→e.2.2=m)→lnD b m n c=c
 | 0,_,_=>rfl
 | n+1,c,h=>by
  cases c<;>simp only[lnD]<;>try rfl
  case ref b' off len=>
   simp only[shE] at h
   split
   ·rename_i hb
    rw[hb] at h
    cases off with
    | zero=>have:=h (b,[],len) (by simp);simp only at this ⊢;rw[this]
    | succ o=>rfl
   ·rfl
  case fn f x y=>
   simp only[shE] at h
   rw[G5 fun c hc=>lnD_id n c fun e he=>h e (ξd _ (ξb.2 ⟨c,hc,he⟩)),G5 fun c hc=>lnD_id n c fun e he=>h e (List.mem_append_right _ (ξb.2 ⟨c,hc,he⟩))]
  case agg l=>
   simp only[shE] at h
   rw[G5 fun c hc=>lnD_id n c fun e he=>h e (ξb.2 ⟨c,hc,he⟩)]
  case tup l=>
   simp only[shE] at h
   rw[G5 fun c hc=>lnD_id n c fun e he=>h e (ξb.2 ⟨c,hc,he⟩)]
theorem len_spec{G:Nat→Option (List V)}{d:D}{b m:Nat}{ns:List Nat}{hn:∀n,n∈ns→n=m}{next:D→C}{X:C}(h:ghX (.len b m ns hn) d next=X)(he:ghE (.len b m ns hn) d=ns.map fun n=>(b,[],n))(hd:d.Ok) :
  ∃d':D,next d'=X∧d'.Ok∧Gst G d.st d'.st∧d'.n=d.n:=by
 simp only[ghX,nrmT_eq,nrmB_eq] at h
 have key:∀e,e∈ghE (.len b m ns hn) d→e.2.2=m:=fun e hm=>by
  rw[he] at hm
  obtain⟨n,h1,rfl⟩:=ζt.1 hm
  exact hn n h1
 simp only[ghE] at key
 have e1:(d.ts.map fun p=>(p.1,lnD b m 6 p.2))=d.ts:=G5 fun p hp=>by
  rw[lnD_id 6 p.2 fun e he=>key e (ξd _ (ξb.2 ⟨p,hp,he⟩))]
 have e2:d.bs.map (lnB d.sy b m)=d.bs:=G5 fun p hp=>by
  have hk:∀e,e∈lnEB d.sy b p→e.2.2=m:=fun e he=>key e (List.mem_append_right _ (ξb.2 ⟨p,hp,he⟩))
  unfold lnEB at hk
  unfold lnB
  split
  ·rfl
  ·rename_i hs
   rw[hs] at hk
   have:p.2.rows.map (·.map (lnD b m 6))=p.2.rows:=G5 fun r hr=>G5 fun c hc=>lnD_id 6 c fun e he=>hk e (ξb.2 ⟨r,hr,ξb.2 ⟨c,hc,he⟩⟩)
   rw[this]
 rw[e1,e2] at h
 exact⟨d,h,hd,fun γ _ w hs=>⟨γ,hs,.refl γ w,.refl hs.u⟩,rfl⟩
theorem ghX_spec{G:Nat→Option (List V)}{d:D}{w:GhW}{next:D→C}{X:C}(h:ghX w d next=X)(hX:∀j,C.stuck j≠X)(he:ghE w d=w.eqs)(hd:d.Ok):∃d':D,next d'=X∧d'.Ok∧Gst G d.st d'.st∧d'.n=d.n:=by
 cases w with
 | virt d t size=>exact virt_spec h hX hd
 | virtC d b j size=>exact virtC_spec h hX hd
 | ren a b=>exact ren_spec h hX hd
 | share v n=>exact share_spec h hX he hd
 | drop l=>exact drop_spec h hX hd
 | tell b es=>exact tell_spec h hX hd
 | len b m ns hn=>exact len_spec h he hd
theorem coeV_okV{u:Nat→Bool}:∀(n:Nat) (e c:V),okV u (A8 n e c)=true→okV u c=true
 | 0,_,_,h=>h
 | n+1,e,c,h=>by
  have lst:∀(es cs:List V),okL u (V8 (A8 n) es cs)=true→okL u cs=true:=by
   intro es cs
   induction cs generalizing es with
   | nil=>intro _;rfl
   | cons c cs ih=>
    intro h
    cases es with
    | nil=>exact h
    | cons e es=>
     simp only[V8,okL,ζA] at h ⊢
     exact⟨coeV_okV n e c h.1,ih es h.2⟩
  cases c<;>simp only[A8] at h<;>try exact h
  case nilsl=>rfl
  case sl=>rfl
  case agg cs=>
   split at h
   ·simp only[okV] at h ⊢;exact lst _ _ h
   ·exact h
  case tup cs=>
   split at h
   ·simp only[okV] at h ⊢;exact lst _ _ h
   ·exact h
theorem coeR_okV{u:Nat→Bool}:∀(es cs:List (List V)),(∀r,r∈coeR es cs→∀c,c∈r→okV u c=true)→∀r,r∈cs→∀c,c∈r→okV u c=true
 | [],cs,h=>by cases cs<;>exact h
 | _ :: _,[],_=>fun r hr=>by simp at hr
 | e :: es,c :: cs,h=>fun r hr=>by
  simp only[ζv] at hr
  rcases hr with rfl|hr
  ·have h0:okL u (V8 (A8 8) e r)=true:=okL_all.2 fun c hc=>h _ (by simp[coeR]) c hc
   have:∀(es cs:List V),okL u (V8 (A8 8) es cs)=true→okL u cs=true:=by
    intro es cs
    induction cs generalizing es with
    | nil=>intro _;rfl
    | cons c cs ih=>
     intro h
     cases es with
     | nil=>exact h
     | cons e es=>
      simp only[V8,okL,ζA] at h ⊢
      exact⟨coeV_okV 8 e c h.1,ih es h.2⟩
   exact okL_all.1 (this _ _ h0)
  ·exact coeR_okV es cs (fun r hr=>h r (by simp[coeR,hr])) r hr
def extGoal(x:Ext)(n:Nat):Exit→St→Prop:=fun e s=>e=x.ex∧s.n=n∧extTs x s=x.ts∧extBs x s=x.bs.map fun p=>(p.1,some p.2)
theorem L7{G:Nat→Option (List V)}{x:Ext}{s:St}(hok:x.ok=true)(ht:extTs x s=x.ts)(hb:extBs x s=x.bs.map fun p=>(p.1,some p.2)):Gst G s (x.D s.n).st:=by
 simp only[Ext.ok,ζA,ζE] at hok
 have htp:∀p,p∈x.ts→A8 8 p.2 (s.t p.1)=p.2:=fun p hp=>by
  have:=List.map_inj_left.1 (show x.ts.map (fun p=>(p.1,A8 8 p.2 (s.t p.1)))=x.ts.map (fun p=>(p.1,p.2)) from ht.trans (by simp)) p hp
  simpa using this
 have hbp:∀p,p∈x.bs→coeB x.dt p.1 p.2 (s.b p.1)=some p.2:=fun p hp=>by
  have:=List.map_inj_left.1 hb p hp
  simpa using this
 have hbs:∀p,p∈x.bs→∃k,s.b p.1=some k∧k.size=p.2.size∧k.excl=p.2.excl∧(p.1∈x.dt→k=p.2)∧(¬p.1∈x.dt→coeR p.2.rows k.rows=p.2.rows):=fun p hp=>by
  have:=hbp p hp
  unfold coeB at this
  split at this
  ·rename_i hd;exact⟨p.2,this,rfl,rfl,fun _=>rfl,fun h=>absurd (by simpa using hd) h⟩
  ·rename_i hd
   obtain⟨k,h1,h2⟩:=ζb.1 this
   refine⟨k,h1,by rw[←h2],by rw[←h2],fun h=>absurd h (by simpa using hd),fun _=>by
    have:=congrArg Blk.rows h2
    exact this⟩
 let kOf:Nat×Blk→Blk:=fun p=>match s.b p.1 with|some k=>k|none=>p.2
 have hkOf:∀p,p∈x.bs→s.b p.1=some (kOf p):=fun p hp=>by
  obtain⟨k,h1,_⟩:=hbs p hp
  simp only[kOf,h1]
 let s0:=G0 s.n (x.ts.map fun p=>(p.1,s.t p.1)) (x.bs.map fun p=>(p.1,kOf p)) x.us
 have F:G3 s s0:=by
  refine forget_to rfl ?_ ?_ ?_ ?_ ?_
  ·rw[ζq,ζq];rfl
  ·refine ζE.2 fun q hq=>?_
   obtain⟨p,hp,rfl⟩:=ζt.1 hq
   refine coeV_okV 8 p.2 _ ?_
   show okV _ (A8 8 p.2 (s.t p.1))=true
   rw[htp p hp]
   exact hok.1 p hp
  ·rw[ζq,ζq]
   exact ξi fun p hp=>hkOf p hp
  ·refine ζE.2 fun q hq=>?_
   obtain⟨p,hp,rfl⟩:=ζt.1 hq
   show okU x.us p.1=true
   simp only[okU,Ext.us,ζX,ζD,ζF]
   exact .inl (ζt.2 ⟨p,hp,rfl⟩)
  ·intro q hq r hr c hc
   obtain⟨p,hp,rfl⟩:=ζt.1 hq
   obtain⟨k,h1,h2,h3,h4,h5⟩:=hbs p hp
   have hk:kOf p=k:=by simp only[kOf,h1]
   simp only[hk] at hr
   by_cases hd:p.1∈x.dt
   ·rw[h4 hd] at hr
    exact G7 (x.dat p hp hd r hr c hc) _
   ·have:=hok.2 p hp
    simp only[blkOkB,ζX,ζD,ζF,ζE] at this
    have hall:=this.resolve_left hd
    exact coeR_okV p.2.rows k.rows (by rw[h5 hd];exact hall) r hr c hc
 refine(Gst.forget F).trans (Gst.cells rfl rfl (fun i=>?_) fun b=>?_)
 ·show Wk _ _ (s0.t i) ((G0 s.n x.ts x.bs x.us).t i)
  simp only[s0,stOf_t]
  rw[S3 (fun p=>s.t p.1)]
  cases hf:x.ts.find? (fun p=>p.1==i) with
  | none=>exact Wk.refl _
  | some p=>
   simp only[ζZ]
   have:=htp p (D8 hf).1
   have w:=coeV_wk (bs:=(x.D s.n).st.b) (u:=(x.D s.n).st.u) 8 p.2 (s.t p.1)
   rw[this] at w
   exact w
 ·show (s0.b b=none∧(G0 s.n x.ts x.bs x.us).b b=none)∨_
  simp only[s0,stOf_b]
  rw[S3 kOf]
  cases hf:x.bs.find? (fun p=>p.1==b) with
  | none=>exact .inl ⟨rfl,rfl⟩
  | some p=>
   simp only[ζZ]
   obtain⟨k,h1,h2,h3,h4,h5⟩:=hbs p (D8 hf).1
   have hk:kOf p=k:=by simp only[kOf,h1]
   rw[hk]
   refine .inr ⟨k,p.2,rfl,?_,h2.symm,h3.symm,?_⟩
   ·show (G0 s.n x.ts x.bs x.us).b b=_
    rw[stOf_b,hf]
   ·by_cases hd:p.1∈x.dt
    ·rw[h4 hd]
     exact⟨rfl,fun i r' h=>⟨r',h,rfl,fun j c' hc=>⟨c',hc,Wk.refl _,fun _=>.inl rfl⟩⟩⟩
    ·have:=coeR_rel (bs:=(x.D s.n).st.b) (u:=(x.D s.n).st.u) p.2.rows k.rows
     rw[h5 hd] at this
     exact this
end Go.EV
namespace Go.EV
open Go
section
variable {P:Program} {G:Nat→Option (List V)}
def Rel(_P:Program)(G:Nat→Option (List V))(Q:Exit→St→Prop)(e:Exit)(st:St):Prop:=
 ∀(fx:Fx) (γ:Gh) (a:Act) (w:World),Sim G γ st a.tmps w→a.defers=fx.ds→O3 G fx γ st w Q e a w
theorem Rel.of{Q:Exit→St→Prop}{e:Exit}{st:St}(h:Q e st):Rel P G Q e st:=fun _ γ _ w hs hd=>⟨st,γ,hs,⟨.refl γ w,.refl hs.u⟩,.of hd,h⟩
theorem Rel.mono{Q Q':Exit→St→Prop}{e e':Exit}{st:St}(h:Rel P G Q e st)(hq:∀s,Q e s→Q' e' s):Rel P G Q' e' st:=fun fx γ a w hs hd=>by
 obtain⟨st',γ',h1,h2,h3,h4⟩:=h fx γ a w hs hd
 exact⟨st',γ',h1,h2,h3,hq _ h4⟩
theorem Rel.forget{Q:Exit→St→Prop}{e:Exit}{st st':St}(f:G3 st st')(h:Rel P G Q e st'):Rel P G Q e st:=fun fx γ a w hs hd=>
 (h fx γ a w (f.sim hs) hd).grow ⟨.refl γ w,f.pin hs⟩
theorem Rel.ghost{Q:Exit→St→Prop}{e:Exit}{st st':St}(g:Gst G st st')(h:Rel P G Q e st'):Rel P G Q e st:=fun fx γ a w hs hd=>by
 obtain⟨γ',h1,h2,h3⟩:=g γ a.tmps w hs
 exact(h fx γ' a w h1 hd).grow ⟨h2,h3⟩
theorem TV.rel{c:Code}{st:St}{Q Q':Exit→St→Prop}(h:TV P G c st Q')(hq:∀e s,Q' e s→Rel P G Q e s):TV P G c st Q:=fun fx γ a w hs hd=>
 wpIn_mono (h fx γ a w hs hd) fun e a' w' hl=>by
  obtain⟨st',γ',h1,h2,h3,h4⟩:=hl
  exact(hq e st' h4 ⟨fx.ro,a'.defers,fx.mx⟩ γ' a' w' h1 rfl).grow2 h2 h3
theorem TV.skipR{st:St}{Q:Exit→St→Prop}(h:Rel P G Q .normal st):TV P G .skip st Q:=fun fx γ a w hs hd=>wpIn_skip (h fx γ a w hs hd.1)
theorem TV.labelR{l:Nat}{st:St}{Q:Exit→St→Prop}(h:Rel P G Q .normal st):TV P G (.label l) st Q:=fun fx γ a w hs hd=>wpIn_label (h fx γ a w hs hd.1)
theorem TV.exitR{id:Nat}{st:St}{Q:Exit→St→Prop}(h:Rel P G Q (.exit id) st):TV P G (.exit id) st Q:=fun fx γ a w hs hd=>wpIn_exit (h fx γ a w hs hd.1)
theorem TV.retR{st:St}{Q:Exit→St→Prop}(h:Rel P G Q .ret st):TV P G .ret st Q:=fun fx γ a w hs hd=>wpIn_ret (h fx γ a w hs hd.1)
def TVin(P:Program)(G:Nat→Option (List V))(c:Code)(st:St)(Q:Exit→St→Prop):Prop:=
 ∀(fx:Fx) (γ:Gh) (a:Act) (w:World),Sim G γ st a.tmps w→FxOk fx γ a.defers w→CWin fx.ro P c (O3 G fx γ st w Q) a w
theorem TV.lpAux{c:Code}{st:St}{Q:Exit→St→Prop}(h:TV P G c st (thenV (fun s=>TVin P G c s Q) Q)):∀(fx:Fx) (γ:Gh) (a:Act) (w:World),Sim G γ st a.tmps w→FxOk fx γ a.defers w→CW fx.ro P c (Exit.then (CWin fx.ro P c (O3 G fx γ st w Q)) (O3 G fx γ st w Q)) a w:=fun fx γ a w hs hd=>
 wpIn_mono (h fx γ a w hs hd) fun e a' w' hl=>by
  obtain⟨st',γ',h1,h2,h3,h4⟩:=hl
  cases e with
  | normal=>exact cwIn_mono (h4 ⟨fx.ro,a'.defers,fx.mx⟩ γ' a' w' h1 (hd.step h2.1)) fun _ _ _ hl=>hl.grow2 h2 h3
  | _=>exact⟨st',γ',h1,h2,h3,h4⟩
theorem TV.loopOnce{c:Code}{st:St}{Q:Exit→St→Prop}(h:TV P G c st (thenV (fun s=>TVin P G c s Q) Q)):TV P G (.loop c) st Q:=fun fx γ a w hs hd=>cw_loop_once (TV.lpAux h fx γ a w hs hd)
theorem TVin.once{c:Code}{st:St}{Q:Exit→St→Prop}(h:TV P G c st (thenV (fun s=>TVin P G c s Q) Q)):TVin P G c st Q:=fun fx γ a w hs hd=>cwIn_once (TV.lpAux h fx γ a w hs hd)
def noGoto(Q:Exit→St→Prop):Exit→St→Prop
 | .goto _,_=>False
 | e,st=>Q e st
def Qx(P:Program)(G:Nat→Option (List V))(Q:Exit→St→Prop):List Kf→Exit→St→Prop
 | []=>Q
 | .seq y :: K=>thenV (fun st=>TV P G y st (Qx P G Q K)) (Qx P G Q K)
 | .block id :: K=>S0 id (Qx P G Q K)
 | .scope :: K=>noGoto (Qx P G Q K)
 | .lp c :: K=>thenV (fun st=>TVin P G c st (Qx P G Q K)) (Qx P G Q K)
def G9(P:Program){ρ:Type}(F:C8 ρ)(r:ρ)(n:Nat):Exit→St→Prop:=
 match F with
 | .fn rs res outs=>fun e s=>∃v0,A8 8 (res r) v0=res r∧Done P rs v0 (ofL (outs r)) e s
 | .mid E=>extGoal (E r) n
 | .reg _ _=>fun _ _=>False
 | .rnd S E=>match r with
  | .inl y=>fun e s=>D6 e=true∧extGoal (S y) n e s
  | .inr z=>fun e s=>D6 e=false∧extGoal (E z) n e s
 | .fnp rs res outs ex pouts=>match r with
  | .inl r=>fun e s=>∃v0,A8 8 (res r) v0=res r∧Done P rs v0 (ofL (outs r)) e s
  | .inr z=>fun e s=>e=ex z∧∀b k,ofL (pouts z) b=some k→s.b b=some k
def Post(P:Program)(G:Nat→Option (List V))(Q:Exit→St→Prop)(cur:Code⊕Exit)(K:List Kf)(st:St):Prop:=
 match cur with
 | .inl c=>TV P G c st (Qx P G Q K)
 | .inr e=>Rel P G (Qx P G Q K) e st
def RecOk(rec:Rec P G):Prop:=
 ∀(ρ:Type) (F:C8 ρ) (g:T P G ρ) (cur:Code⊕Exit) (K:List Kf) (d:D) (r:ρ),d.Ok→rec ρ F g cur K d=g.expect F→g.run=some r→Post P G (G9 P F r d.n) cur K d.st
section
variable {kp:List Nat} {rec:Rec P G} (hm:P.follows .mixedOrders=true) (hrec:RecOk rec) {ρ:Type} {F:C8 ρ} {g:T P G ρ} {K:List Kf} {d:D} {r:ρ}
theorem finExt_spec{e:Exit}{x:Ext}(h:finExt e x d=extFin x.ex x):extGoal x d.n e d.st:=by
 simp only[finExt,extFin,C.fin.injEq,true_and,ζa] at h
 exact⟨h.1,rfl,h.2.1,h.2.2⟩
theorem fin_spec{e:Exit}(h:fin P G F g e d=g.expect F)(hr:g.run=some r):G9 P F r d.n e d.st:=by
 cases g<;>simp only[fin] at h<;>try exact absurd h (Z5 _ _ _)
 case done r'=>
  simp only[T.run,ζa] at hr
  subst hr
  cases F with
  | fn rs res outs=>
   have key:(e=.normal∨e=.ret)→C.fin ((F7 P d.st rs).map (A8 8 (res r'))) none [] ((outs r').map fun p=>(p.1,d.st.b p.1))=T.expect (C8.fn rs res outs) (T.done (P:=P) (G:=G) r')→G9 P (C8.fn rs res outs) r' d.n e d.st:=by
    intro he h
    simp only[T.expect,C.fin.injEq,true_and] at h
    obtain⟨v0,h0,h1⟩:=ζb.1 h.1
    refine⟨v0,h1,he,h0,fun b k hk=>?_⟩
    have hmem:=O8 hk
    have:=List.map_inj_left.1 h.2 (b,k) hmem
    simp only[ζP,true_and] at this
    exact this
   simp only at h
   split at h
   ·exact key (.inl rfl) h
   ·exact key (.inr rfl) h
   ·simp[T.expect] at h
  | mid E=>exact finExt_spec (by simpa[T.expect] using h)
  | fnp rs res outs ex pouts=>
   cases r' with
   | inl y=>
    have key:(e=.normal∨e=.ret)→C.fin ((F7 P d.st rs).map (A8 8 (res y))) none [] ((outs y).map fun p=>(p.1,d.st.b p.1))=C.fin (some (res y)) none [] ((outs y).map fun p=>(p.1,some p.2))→∃v0,A8 8 (res y) v0=res y∧Done P rs v0 (ofL (outs y)) e d.st:=by
     intro he h
     simp only[C.fin.injEq,true_and] at h
     obtain⟨v0,h0,h1⟩:=ζb.1 h.1
     refine⟨v0,h1,he,h0,fun b k hk=>?_⟩
     have hmem:=O8 hk
     have:=List.map_inj_left.1 h.2 (b,k) hmem
     simp only[ζP,true_and] at this
     exact this
    simp only at h
    split at h
    ·exact key (.inl rfl) (by simpa[T.expect] using h)
    ·exact key (.inr rfl) (by simpa[T.expect] using h)
    ·simp[T.expect] at h
   | inr z=>
    simp only[T.expect,C.fin.injEq,true_and,ζa] at h
    refine⟨h.1,fun b k hk=>?_⟩
    have hmem:=O8 hk
    have:=List.map_inj_left.1 h.2 (b,k) hmem
    simp only[ζP,true_and] at this
    exact this
  | reg ts E=>exact absurd h (Z5 _ _ _)
  | rnd S E=>
   cases r' with
   | inl y=>
    simp only at h
    split at h
    ·rename_i hn;exact⟨hn,finExt_spec (by simpa[T.expect] using h)⟩
    ·exact absurd h (Z5 _ _ _)
   | inr z=>
    simp only at h
    split at h
    ·exact absurd h (Z5 _ _ _)
    ·rename_i hn;exact⟨hn,finExt_spec (by simpa[T.expect] using h)⟩
theorem C4{x:Ext}{n:Nat}(hok:x.ok=true):(x.D n).Ok:=by
 have hok':=hok
 simp only[Ext.ok,ζA,ζE] at hok'
 refine D.Ok.of_lists (fun p hp=>hok'.1 p hp) (fun p hp=>⟨?_,fun r hr c hc=>?_⟩) (fun b hb k hk=>?_)
 ·simp only[okU,Ext.D,Ext.us,ζX,ζD,ζF]
  exact .inl (ζt.2 ⟨p,hp,rfl⟩)
 ·have:=hok'.2 p hp
  simp only[blkOkB,ζX,ζD,ζF,ζE] at this
  rcases this with h1|h1
  ·exact G7 (x.dat p hp h1 r hr c hc) _
  ·exact h1 r hr c hc
 ·unfold D.st at hk
  rw[stOf_b] at hk
  split at hk
  ·rename_i p hp
   simp only[ζa] at hk
   subst hk
   obtain⟨h1,h2⟩:=D8 hp
   exact x.dat p h1 (by rw[h2];exact hb)
  ·simp at hk
theorem V4{e:Exit}(h:D6 e=false):e≠.normal:=by cases e<;>simp_all [D6]
theorem isNormal_true{e:Exit}(h:D6 e=true):e=.normal:=by cases e<;>simp_all [D6]
theorem thenV_other{A:St→Prop}{Q:Exit→St→Prop}{e:Exit}(h:e≠.normal)(s:St)(hq:Q e s):thenV A Q e s:=by
 cases e<;>first|exact absurd rfl h|exact hq
include hrec in
theorem sxE_spec{e:Exit}(hd:d.Ok)(h:sxE rec F g e K d=g.expect F)(hr:g.run=some r):Rel P G (Qx P G (G9 P F r d.n) K) e d.st:=by
 unfold sxE at h
 split at h
 ·exact Rel.of (fin_spec h hr)
 ·rename_i y K
  split at h
  ·rename_i hn
   have:=hrec _ _ _ _ _ _ _ hd h hr
   rw[isNormal_true hn]
   exact Rel.of (show TV P G y d.st _ from this)
  ·rename_i hn
   have:Rel P G (Qx P G (G9 P F r d.n) K) e d.st:=hrec _ _ _ _ _ _ _ hd h hr
   exact this.mono fun s hq=>thenV_other (V4 hn) s hq
 ·rename_i id K
  split at h
  ·rename_i id'
   split at h
   ·rename_i he
    have:Rel P G (Qx P G (G9 P F r d.n) K) .normal d.st:=hrec _ _ _ _ _ _ _ hd h hr
    refine this.mono fun s hq=>?_
    show S0 id _ (.exit id') s
    simp only[S0]
    rw[if_pos (by simpa using he)];exact hq
   ·rename_i he
    have:Rel P G (Qx P G (G9 P F r d.n) K) (.exit id') d.st:=hrec _ _ _ _ _ _ _ hd h hr
    refine this.mono fun s hq=>?_
    show S0 id _ (.exit id') s
    simp only[S0]
    rw[if_neg (by simpa using he)];exact hq
  ·rename_i he
   have:Rel P G (Qx P G (G9 P F r d.n) K) e d.st:=hrec _ _ _ _ _ _ _ hd h hr
   refine this.mono fun s hq=>?_
   show S0 id _ e s
   cases e<;>first|exact absurd rfl (he _)|exact hq
 ·rename_i K
  split at h
  ·exact absurd h (Z5 _ _ _)
  ·rename_i he
   have:Rel P G (Qx P G (G9 P F r d.n) K) e d.st:=hrec _ _ _ _ _ _ _ hd h hr
   refine this.mono fun s hq=>?_
   show noGoto _ e s
   cases e<;>first|exact absurd rfl (he _)|exact hq
 ·rename_i c K
  split at h
  ·rename_i hn
   have:=hrec _ _ _ _ _ _ _ hd h hr
   rw[isNormal_true hn]
   exact Rel.of (show TVin P G c d.st _ from TVin.once this)
  ·rename_i hn
   have:Rel P G (Qx P G (G9 P F r d.n) K) e d.st:=hrec _ _ _ _ _ _ _ hd h hr
   exact this.mono fun s hq=>thenV_other (V4 hn) s hq
include hrec hm in
theorem sxRg_spec{id:Nat}{ops:Array Oper}{draw:Bool}(hd:d.Ok)(h:sxRg kp rec F id ops draw g K d=g.expect F)(hr:g.run=some r):TV P G (.region id ops draw) d.st (Qx P G (G9 P F r d.n) K):=by
 rcases region_sound h hr hd.sy with⟨g',s,p,sy',x1,x2,x3,x4,x5,x6⟩|⟨v,g',s',p',sy',p,n,x1,x2,x3,x4,x5,x6,x7⟩
 ·split at x1
  ·rename_i hdr
   obtain⟨d',y1,y2,y3,y4⟩:=regEnd_spec x1 (fun j=>Z5 F g' j) hd x5 x3
   have hq:Rel P G (Qx P G (G9 P F r d'.n) K) .normal d'.st:=hrec _ _ _ _ _ _ _ y2 y1 x2
   rw[y4] at hq
   refine TV.rel (Q':=fun e s'=>e=.normal∧s'=s) (TV.plan hm hdr x5 x6 ⟨rfl,rfl⟩) fun e s' he=>?_
   obtain⟨rfl,rfl⟩:=he
   exact hq.forget y3
  ·exact absurd x1 (Z5 _ _ _)
 ·cases draw with
  | false=>
   obtain⟨d',y1,y2,y3,y4⟩:=regEnd_spec x1 (fun j=>Z5 F g' j) hd x7 x3
   have hq:Rel P G (Qx P G (G9 P F r d'.n) K) (.panic (thrown v)) d'.st:=hrec _ _ _ _ _ _ _ y2 y1 x2
   rw[y4] at hq
   refine TV.rel (Q':=fun e s''=>e=.panic (thrown v)∧s''=s') (TV.planP x4 x5 x6 ⟨rfl,rfl⟩) fun e s'' he=>?_
   obtain⟨rfl,rfl⟩:=he
   exact hq.forget y3
  | true=>exact absurd x1 (Z5 _ _ _)
theorem regFin_spec{ops:Array Oper}{draw:Bool}{ts:List Nat}{ε:Type}{E:ε→List V}{first:T P G ε}{e:ε}{s:St}{p:J0}(h:regFin P G ops draw ts d first s p=first.expect (.reg ts E))(hr:first.run=some e) :
  ts.map s.t=E e∧(!draw || drawOk ops p)=true∧(∀b,b∈p.wbs→∀x,x∈d.bs→x.1≠b)∧∀t,t∈p.wts→t∈ops.toList.filterMap (·.dst):=by
 unfold regFin at h
 split at h
 ·rename_i r'
  simp only[T.run,ζa] at hr
  subst hr
  split at h
  ·rename_i hc
   simp only[T.expect,C.fins.injEq] at h
   simp only[ζA,ζE,ζB,List.any_eq_false,beq_iff_eq] at hc
   exact⟨h,hc.1,fun b hb x hx=>hc.2.1 b hb x hx,fun t ht=>by simpa using hc.2.2 t ht⟩
  ·exact absurd h (Z5 _ _ _)
 ·simp[T.run] at hr
 ·exact absurd h (Z5 _ _ _)
theorem zip_find{ts:List Nat}{vs:List V}{s:St}(h:ts.map s.t=vs):∀p,p∈ts.zip vs→s.t p.1=p.2:=by
 subst h
 intro p hp
 induction ts with
 | nil=>simp at hp
 | cons t ts ih=>
  simp only[ξf,List.zip_cons_cons,ζv] at hp
  rcases hp with rfl|hp
  ·rfl
  ·exact ih hp
include hrec hm in
theorem sxR_spec{id:Nat}{ops:Array Oper}{draw:Bool}(hd:d.Ok)(h:sxR kp rec F id ops draw g K d=g.expect F)(hr:g.run=some r):TV P G (.region id ops draw) d.st (Qx P G (G9 P F r d.n) K):=by
 unfold sxR at h
 split at h
 ·rename_i ε id' ts first E k
  split at h
  ·simp only[T.expect,C.bind.injEq,heq_eq_eq,true_and] at h
   obtain⟨h1,h2⟩:=h
   simp only[T.run] at hr
   split at hr
   ·rename_i e he
    have h3:=congrFun h2 e
    split at h3
    ·rename_i hok
     simp only[ζA,ζE,beq_iff_eq] at hok
     rcases region_sound h1 he hd.sy with⟨g',s,p,sy',x1,x2,x3,x4,x5,x6⟩|⟨_,_,_,_,_,_,_,x1,_⟩
     rotate_left
     ·exact absurd x1 (Z5 _ _ _)
     obtain⟨y1,y2,y3,y4⟩:=regFin_spec x1 x2
     have tmp:∀i,¬i∈ops.toList.filterMap (·.dst)→s.t i=d.st.t i:=fun i hi=>by rw[x5];exact along_t_other (fun hm=>hi (y4 i hm)) _
     have fg:G3 s (cndD ops ts d (E e)).st:=by
      refine⟨?_,fun i=>?_,fun b=>?_,fun b hb=>okU_top (uPin_le hb)⟩
      ·rw[x5,along_n];rfl
      ·have e0:(cndD ops ts d (E e)).st.t i=(match (ts.zip (E e)++d.ts.filter fun x=>!(ops.toList.filterMap (·.dst)).contains x.1&&!ts.contains x.1).find? (fun p=>p.1==i) with|some p=>p.2|none=>.undef):=rfl
       rw[e0,List.find?_append]
       cases hf:(ts.zip (E e)).find? (fun p=>p.1==i) with
       | some x=>
        obtain⟨z1,z2⟩:=D8 hf
        have z3:=zip_find y1 x z1
        refine .inr ⟨by simp only[Option.some_or];rw[←z2];exact z3.symm,?_⟩
        rw[←z2,z3]
        exact hok.1 x.2 (List.of_mem_zip z1).2
       | none=>
        simp only[Option.none_or]
        cases hw:(!(ops.toList.filterMap (·.dst)).contains i&&!ts.contains i) with
        | false=>rw[E4 (q:=fun j=>!(ops.toList.filterMap (·.dst)).contains j&&!ts.contains j) hw];exact .inl rfl
        | true=>
         rw[E3 (q:=fun j=>!(ops.toList.filterMap (·.dst)).contains j&&!ts.contains j) hw]
         simp only[ζA,ζB,ζD,ζG] at hw
         have e1:=tmp i hw.1
         exact .inr ⟨by rw[e1];rfl,by rw[e1];exact hd.tmp i⟩
      ·have e0:(cndD ops ts d (E e)).st.b b=d.st.b b:=rfl
       rw[e0]
       by_cases hw:b∈p.wbs
       ·refine .inl ?_
        unfold D.st
        rw[stOf_b]
        have:d.bs.find? (fun x=>x.1==b)=none:=List.find?_eq_none.2 fun x hx hxe=>y3 b hw x hx (by simpa using hxe)
        rw[this]
       ·have e1:s.b b=d.st.b b:=by rw[x5];exact along_b_other hw _
        refine .inr ⟨by rw[e1],fun k hk=>?_⟩
        rw[e1] at hk
        exact hd.blk hk
     have ok':(cndD ops ts d (E e)).Ok:=D.Ok.of_forget fg hd.sy
     have hq:Rel P G (Qx P G (G9 P F r d.n) K) .normal (cndD ops ts d (E e)).st:=hrec _ _ _ _ _ (cndD ops ts d (E e)) _ ok' h3 hr
     refine TV.rel (Q':=fun e s'=>e=.normal∧s'=s) (TV.plan hm y2 x5 x6 ⟨rfl,rfl⟩) fun e s' he=>?_
     obtain⟨rfl,rfl⟩:=he
     exact hq.forget fg
    ·exact absurd h3 (Z5 _ _ _)
   ·simp at hr
  ·exact sxRg_spec hm hrec hd h hr
 ·exact sxRg_spec hm hrec hd h hr
end
end
structure Y4(w w1:World):Prop where
 size:w.heap.size≤w1.heap.size
 same:∀(B:Nat) (cs:Array Value) (e:TypeId) (fz:Nat×Nat),w.heap[B]?=some (.cells cs e fz)→w1.heap[B]?=some (.cells cs e fz)
 maps:∀(B:Nat) (es:Array MapEntry) (k:Nat),w.heap[B]?=some (.map es k)→w1.heap[B]?=some (.map es k)
theorem Y4.trans{a b c:World}(h:Y4 a b)(k:Y4 b c):Y4 a c:=⟨Nat.le_trans h.size k.size,fun B cs e fz hb=>k.same B cs e fz (h.same B cs e fz hb),fun B es c hb=>k.maps B es c (h.maps B es c hb)⟩
theorem Y4.row{w w1:World}(h:Y4 w w1){B:Nat}{cs:Array Value}{e:TypeId}(hr:M6 w B cs e):M6 w1 B cs e:=by
 obtain⟨fz,h1,h2⟩:=hr
 exact⟨fz,h.same _ _ _ _ h1,h2⟩
theorem cellAt_block{w:World}{B o:Nat}{v:Value}(h:cellAt w B o=some v):∃cs e fz,w.heap[B]?=some (.cells cs e fz):=by
 unfold cellAt World.cell? at h
 cases hb:w.heap[B]? with
 | none=>simp[hb] at h
 | some x=>cases x<;>simp_all
theorem Y4.cell{w w1:World}(h:Y4 w w1){B o:Nat}{v:Value}(hc:cellAt w B o=some v):cellAt w1 B o=some v:=by
 obtain⟨cs,e,fz,hb⟩:=cellAt_block hc
 have:=h.same B cs e fz hb
 unfold cellAt World.cell? at hc ⊢
 simp only[hb] at hc
 simp only[this]
 exact hc
theorem Y4.room{w w1:World}(h:Y4 w w1){B n:Nat}(hr:RoomAt w B n):RoomAt w1 B n:=by
 obtain⟨cs,e,fz,h1,h2⟩:=hr
 exact⟨cs,e,fz,h.same B cs e fz h1,h2⟩
theorem Y4.rep{w w1:World}(h:Y4 w w1){γ:Gh}{bs:Nat→Option Blk}{u:Nat→Bool}{c:V}{v:Value}(hr:Rep γ w bs u c v):Rep γ w1 bs u c v:=by
 induction hr with
 | data h1=>exact .data (h1.mono fun B o v h1 h2=>⟨h1,h.cell h2⟩)
 | undef v=>exact .undef v
 | ref b off len B o cap k h1 h2 h3 h4 h5 h6 h7=>exact .ref b off len B o cap k h1 h2 h3 h4 (h.room h5) h6 h7
 | refE b off B k h1 h6 h2=>exact .refE b off B k h1 h6 h2
 | refN b off k h1 h6 h2=>exact .refN b off k h1 h6 h2
 | deadRef b off len v h1 h2 h3=>exact .deadRef b off len v h1 h2 h3
 | ptr b i off B o k h1 h2 h3=>exact .ptr b i off B o k h1 h2 h3
 | mp b B k h1 h2 h3=>exact .mp b B k h1 h2 h3
 | deadMp b v h1 h2 h3=>exact .deadMp b v h1 h2 h3
 | deadPtr b i off v h1 h2 h3=>exact .deadPtr b i off v h1 h2 h3
 | fn f first captured fs cs h1 h2 _ _ ih1 ih2=>exact .fn f first captured fs cs h1 h2 ih1 ih2
 | agg cells vs h1 _ ih=>exact .agg cells vs h1 ih
 | tup cells vs h1 _ ih=>exact .tup cells vs h1 ih
theorem Y4.right{w w1:World}(h:Y4 w w1){γ:Gh}{t:H4}{c:V}{v:Value}(hr:E5 γ w t c v):E5 γ w1 t c v:=by
 unfold E5 at hr ⊢
 split at hr
 ·rcases hr with hr|⟨h1,cs,e,h2,h3⟩
  ·exact .inl hr
  ·exact .inr ⟨h1,cs,e,h.row h2,h3⟩
 ·trivial
theorem Y4.blkOk{w w1:World}(h:Y4 w w1){γ:Gh}{bs:Nat→Option Blk}{u:Nat→Bool}{b:Nat}{k:Blk}(hb:L2 γ w bs u b k):L2 γ w1 bs u b k:=by
 rcases hb with h0|hm|⟨hM,B,o,cs,e,a1,a2,a3,a4,a5,a6,a7,a8⟩
 ·exact .inl h0
 ·obtain⟨hM,B,es,clock,h1,h2,h3,h4,h5,h6,h7⟩:=hm
  refine .inr (.inl ⟨hM,B,es,clock,h1,h2,h.maps _ _ _ h3,h4,h5,h6,fun i c hc=>?_⟩)
  obtain⟨v,a1,a2,a3⟩:=h7 i c hc
  exact⟨v,a1,h.rep a2,a3⟩
 ·refine .inr (.inr ⟨hM,B,o,cs,e,a1,a2,h.row a3,a4,a5,fun i c hc=>?_,a7,a8⟩)
  obtain⟨x,b1,b2,b3,b4⟩:=a6 i c hc
  exact⟨x,b1,h.rep b2,b3,h.right b4⟩
theorem Y4.sim{w w1:World}(h:Y4 w w1){G:Nat→Option (List V)}{γ:Gh}{st:St}{tmps:Array Value}(hs:Sim G γ st tmps w):Sim G γ st tmps w1:=
 ⟨hs.n,fun i=>h.rep (hs.t i),fun b k hk=>h.blkOk (hs.b b k hk),hs.u,fun g cells hg=>(hs.g g cells hg).mono fun _ _ _ h1 h2=>⟨h1,h.cell h2⟩,fun B x hx=>ζM (hs.o B x hx) h.size⟩
theorem Grow.same{γ γ':Gh}{w w1 w2:World}(g:Grow γ w γ' w1)(h:Y4 w1 w2)(hl:∀B,B < w.heap.size→w2.heap[B]?=w1.heap[B]?)(h1:w2.os=w1.os)(h2:w2.tape=w1.tape)(h3:w2.output=w1.output):Grow γ w γ' w2 where
 os:=h1.trans g.os
 tape:=h2.trans g.tape
 output:=h3.trans g.output
 size:=Nat.le_trans g.size h.size
 imm:=fun B o v hB hc=>h.cell (g.imm B o v hB hc)
 lim:=g.lim
 free:=fun B hB ho=>by
  obtain⟨a1,a2,a3⟩:=g.free B hB ho
  exact⟨(hl B hB).trans a1,a2,a3⟩
 room:=fun B cs e fz hc=>by
  obtain⟨cs',fz',a1,a2⟩:=g.room B cs e fz hc
  exact⟨cs',fz',h.same _ _ _ _ a1,a2⟩
def dataObj:Obj→Bool
 | .cells _ _ _=>true
 | .map _ _=>true
 | _=>false
theorem Y4.put{w:World}{l:Nat}{o o':Obj}(h:w.heap[l]?=some o)(hn:dataObj o=false):Y4 w (w.putObj l o'):=
 ⟨by simp,fun B cs e fz hb=>by
  have hne:B≠l:=fun e'=>by subst e';rw[h] at hb;simp only[ζa] at hb;rw[hb] at hn;cases hn
  rw[World.putObj_heap_other hne];exact hb,fun B es c hb=>by
  have hne:B≠l:=fun e'=>by subst e';rw[h] at hb;simp only[ζa] at hb;rw[hb] at hn;cases hn
  rw[World.putObj_heap_other hne];exact hb⟩
theorem Grow.put{γ γ':Gh}{w w1:World}(g:Grow γ w γ' w1){l:Nat}{o o':Obj}(h:w1.heap[l]?=some o)(hn:dataObj o=false)(hl:w.heap.size≤l):Grow γ w γ' (w1.putObj l o'):=
 g.same (.put h hn) (fun B hB=>World.putObj_heap_other (by omega)) rfl rfl rfl
theorem leaves_marksT{P:Program}{fn:Func}{tmps:Array Value}{R:Ending→World→Prop}{rest:List Deferred}{u:FrameMode}(hu:u≠.run)(I:World→Prop)(hI:∀w,I w→LeavesInM (RF none) 0 P fn tmps R rest u w) :
  ∀(Ds:List Nat) (w:World),I w→Ds.Nodup→(∀D,D∈Ds→w.heap[D]?=some (.deferred (some [])))→(∀D w,D∈Ds→I w→w.heap[D]?=some (.deferred (some []))→I (w.putObj D (.deferred none)))→
   LeavesInM (RF none) 0 P fn tmps R (Ds.map markD++rest) u w
 | [],w,h,_,_,_=>hI w h
 | D :: Ds,w,h,hn,hd,hp=>by
  refine⟨hu,.inl ⟨D,_,rfl,run_takeDeferred (hd D (by simp)),?_⟩⟩
  have hn':=List.nodup_cons.1 hn
  refine leaves_marksT hu I hI Ds _ (hp D w (by simp) h (hd D (by simp))) hn'.2 (fun E hE=>?_) fun E w hE=>hp E w (by simp[hE])
  have hne:E≠D:=fun e=>hn'.1 (by rw[←e];exact hE)
  rw[World.putObj_heap_other hne]
  exact hd E (by simp[hE])
theorem C2{P:Program}{fn:Func}{tmps:Array Value}{R:Ending→World→Prop}(I:World→Prop)(hI:∀w,I w→∃v,(results fn tmps).run P w=.ok v w∧R (.returned v) w) :
  ∀(Ds:List Nat) (w:World),I w→Ds.Nodup→(∀D,D∈Ds→w.heap[D]?=some (.deferred (some [])))→(∀D w,D∈Ds→I w→w.heap[D]?=some (.deferred (some []))→I (w.putObj D (.deferred none)))→
   LeavesInM (RF none) 0 P fn tmps R (Ds.map markD) .returning w
 | [],w,h,_,_,_=>hI w h
 | D :: Ds,w,h,hn,hd,hp=>by
  refine⟨by simp,.inl ⟨D,_,rfl,run_takeDeferred (hd D (by simp)),?_⟩⟩
  have hn':=List.nodup_cons.1 hn
  refine C2 I hI Ds _ (hp D w (by simp) h (hd D (by simp))) hn'.2 (fun E hE=>?_) fun E w hE=>hp E w (by simp[hE])
  have hne:E≠D:=fun e=>hn'.1 (by rw[←e];exact hE)
  rw[World.putObj_heap_other hne]
  exact hd E (by simp[hE])
section
variable {P:Program} {G:Nat→Option (List V)} {kp:List Nat} {rec:Rec P G} (hm:P.follows .mixedOrders=true) (hrec:RecOk rec) {ρ:Type} {F:C8 ρ} {g:T P G ρ} {K:List Kf} {d:D} {r:ρ}
theorem TV.scopeN{c:Code}{st:St}{Q:Exit→St→Prop}(h:TV P G c st (noGoto Q)):TV P G (.scope c) st Q:=
 (TV.scope h fun l s hs=>hs.elim).mono fun e s hs=>by
  cases e<;>first|exact hs.elim|exact hs
theorem loop_main{σ ε:Type}{S:σ→Ext}{body:σ→T P G (σ⊕ε)}{E:ε→Ext}{x:Code}{n:Nat}(hrec:RecOk rec)
  (hb:∀y,(match (S y).ok&&D6 (S y).ex with
     | true=>rec _ (.rnd S E) (body y) (.inl x) [] ((S y).D n)
     | false=>.stuck 69)=(body y).expect (.rnd S E))
  (e0:ε) (m:Nat) (y0:σ) (hit:I8 (fun y=>(body y).run) m y0=some e0):TV P G (.loop x) ((S y0).D n).st (extGoal (E e0) n):=by
 have okS:∀y,(S y).ok=true∧rec _ (.rnd S E) (body y) (.inl x) [] ((S y).D n)=(body y).expect (.rnd S E):=fun y=>by
  have:=hb y
  split at this
  ·rename_i h
   simp only[ζA] at h
   exact⟨h.1,this⟩
  ·exact absurd this (Z5 _ _ _)
 refine TV.loop (fun m st=>∃y,st=((S y).D n).st∧I8 (fun y=>(body y).run) m y=some e0) (fun m st hI=>?_) (n:=m) ⟨y0,rfl,hit⟩
 obtain⟨y,rfl,hy⟩:=hI
 obtain⟨s1,s3⟩:=okS y
 cases m with
 | zero=>simp[I8] at hy
 | succ m=>
  have hy':(match (body y).run with|none=>none|some (.inl z)=>I8 (fun y=>(body y).run) m z|some (.inr e)=>some e)=some e0:=hy
  cases hrun:(body y).run with
  | none=>rw[hrun] at hy';simp at hy'
  | some z=>
   rw[hrun] at hy'
   cases z with
   | inl z=>
    simp only at hy'
    have key:TV P G x ((S y).D n).st (fun e s=>D6 e=true∧extGoal (S z) n e s):=hrec _ _ _ _ _ _ _ (C4 s1) s3 hrun
    obtain⟨z1,_⟩:=okS z
    refine TV.rel key fun e s hg=>?_
    obtain⟨g0,_,g2,g3,g4⟩:=hg
    have f:=L7 (G:=G) (s:=s) z1 g3 g4
    rw[g2] at f
    rw[isNormal_true g0]
    exact Rel.ghost f (Rel.of ⟨m,by omega,z,rfl,hy'⟩)
   | inr e=>
    simp only[ζa] at hy'
    subst hy'
    have key:TV P G x ((S y).D n).st (fun e' s=>D6 e'=false∧extGoal (E e) n e' s):=hrec _ _ _ _ _ _ _ (C4 s1) s3 hrun
    exact key.mono fun e' s hg=>thenV_other (V4 hg.1) s hg.2
include hrec in
theorem sxN_spec{c:Code}(hd:d.Ok)(h:sxN rec F g c K d=g.expect F)(hr:g.run=some r):TV P G c d.st (Qx P G (G9 P F r d.n) K):=by
 unfold sxN at h
 split at h
 ·rename_i o x y
  split at h
  ·rename_i a' c' a b
   split at h
   ·rename_i c hc
    simp only[T.expect,C.br.injEq] at h
    obtain⟨rfl,h1,h2⟩:=h
    simp only[T.run] at hr
    refine TV.cond hc ?_
    cases c with
    | true=>exact hrec _ _ _ _ _ _ _ hd h1 (by simpa using hr)
    | false=>exact hrec _ _ _ _ _ _ _ hd h2 (by simpa using hr)
   ·exact absurd h (Z5 _ _ _)
  ·rename_i k
   split at h
   ·rename_i c hc
    split at h
    ·refine TV.cond hc ?_
     exact hrec _ _ _ _ _ _ _ hd (by simpa[T.expect] using h) (by simpa[T.run] using hr)
    ·exact absurd h (Z5 _ _ _)
   ·exact absurd h (Z5 _ _ _)
  ·rename_i k
   split at h
   ·rename_i c hc
    split at h
    ·refine TV.cond hc ?_
     exact hrec _ _ _ _ _ _ _ hd (by simpa[T.expect] using h) (by simpa[T.run] using hr)
    ·exact absurd h (Z5 _ _ _)
   ·exact absurd h (Z5 _ _ _)
  ·exact absurd h (Z5 _ _ _)
 ·exact TV.block (hrec _ _ _ _ _ _ _ hd h hr)
 ·exact TV.scopeN (hrec _ _ _ _ _ _ _ hd h hr)
 ·rename_i x
  split at h
  ·rename_i σ S body x0
   split at h
   ·rename_i E
    split at h
    ·simp only[T.expect,C.loop.injEq,heq_eq_eq,true_and] at h
     obtain⟨h1,h2,h3⟩:=h
     simp only[T.run] at hr
     have hb:=fun y=>congrFun h3 y
     have s1:(S x0).ok=true:=by
      have:=hb x0
      split at this
      ·rename_i h;simp only[ζA] at h;exact h.1
      ·exact absurd this (Z5 _ _ _)
     exact TV.ghost (L7 (s:=d.st) s1 h1 h2) (loop_main hrec hb r FUEL x0 hr)
    ·exact absurd h (Z5 _ _ _)
   ·exact absurd h (Z5 _ _ _)
  ·exact TV.loopOnce (hrec _ _ _ _ _ _ _ hd h hr)
 ·split at h
  ·rename_i ε S k
   split at h
   ·rename_i hx
    simp only[T.expect,C.sub.injEq,heq_eq_eq,true_and] at h
    obtain⟨h1,h2,h3,h4,h5⟩:=h
    simp only[T.run] at hr
    split at hr
    ·rename_i e he
     have h6:=congrFun h5 e
     split at h6
     ·rename_i hok
      have key:=S.ok e he
      rw[←h1,←h2] at key
      have hq:Rel P G (Qx P G (G9 P F r d.n) K) (S.E e).ex ((S.E e).D d.n).st:=hrec _ _ _ _ _ ((S.E e).D d.n) _ (C4 hok) h6 hr
      refine TV.ghost (L7 (s:=d.st) hx h3 h4) (TV.rel key fun e' s hg=>?_)
      obtain⟨g1,g2⟩:=hg
      rw[g1]
      exact hq.ghost g2
     ·exact absurd h6 (Z5 _ _ _)
    ·simp at hr
   ·exact absurd h (Z5 _ _ _)
  ·exact absurd h (Z5 _ _ _)
 ·exact absurd h (Z5 _ _ _)
include hrec in
theorem bind_spec{ε:Type}{E:ε→Ext}{E':Ext}{e:ε}{first:T P G ε}{k:T P G ρ}{c:Code}(hd:d.Ok)(h1:rec _ (.mid E) first (.inl c) [] d=first.expect (.mid E))(he:first.run=some e)(hE:E e=E')
  (h3:(match E'.ok with
   | true=>rec ρ F k (.inr E'.ex) K (E'.D d.n)
   | false=>.stuck 64)=k.expect F) (hr:k.run=some r):TV P G c d.st (Qx P G (G9 P F r d.n) K):=by
 subst hE
 split at h3
 ·rename_i hok
  have key:TV P G c d.st (G9 P (.mid E) e d.n):=hrec _ _ _ _ _ _ _ hd h1 he
  have hq:Rel P G (Qx P G (G9 P F r d.n) K) (E e).ex ((E e).D d.n).st:=hrec _ _ _ _ _ ((E e).D d.n) _ (C4 hok) h3 hr
  refine TV.rel key fun e' s hg=>?_
  obtain⟨g1,g2,g3,g4⟩:=hg
  have f:=L7 (G:=G) (s:=s) hok g3 g4
  rw[g2] at f
  rw[g1]
  exact hq.ghost f
 ·exact absurd h3 (Z5 _ _ _)
include hrec in
theorem sxB_spec{c:Code}(hd:d.Ok)(h:sxB rec F g c K d=g.expect F)(hr:g.run=some r):TV P G c d.st (Qx P G (G9 P F r d.n) K):=by
 unfold sxB at h
 split at h
 ·rename_i ε first E k
  simp only[T.expect,C.bind.injEq,heq_eq_eq,true_and] at h
  obtain⟨h1,h2⟩:=h
  simp only[T.run] at hr
  split at hr
  ·rename_i e he
   exact bind_spec hrec hd h1 he rfl (congrFun h2 e) hr
  ·simp at hr
 ·rename_i ε ζ first E E2 k k2
  simp only[T.expect,C.bind2.injEq,heq_eq_eq,true_and] at h
  obtain⟨h1,h2,h3⟩:=h
  simp only[T.run] at hr
  split at hr
  ·rename_i e he
   exact bind_spec hrec hd h1 he rfl (congrFun h2 e) hr
  ·rename_i e he
   exact bind_spec hrec hd h1 he rfl (congrFun h3 e) hr
  ·simp at hr
 ·rename_i ε ζ j first E E2 k k2
  have hr':(T.bind2 j first E E2 k k2).run=some r:=by simp only[T.run] at hr ⊢;exact hr
  have ex':(T.bind2 j first E E2 k k2).expect F=(T.bind2 (j+1) first E E2 k k2).expect F:=by simp only[T.expect]
  rw[←ex'] at h
  split at h
  ·exact TV.block (hrec _ _ _ _ _ _ _ hd h hr')
  ·exact TV.scopeN (hrec _ _ _ _ _ _ _ hd h hr')
  ·exact TV.loopOnce (hrec _ _ _ _ _ _ _ hd h hr')
  ·exact absurd h (Z5 _ _ _)
 ·rename_i ε j first E k
  have hr':(T.bind j first E k).run=some r:=by simp only[T.run] at hr ⊢;exact hr
  have ex':(T.bind j first E k).expect F=(T.bind (j+1) first E k).expect F:=by simp only[T.expect]
  rw[←ex'] at h
  split at h
  ·exact TV.block (hrec _ _ _ _ _ _ _ hd h hr')
  ·exact TV.scopeN (hrec _ _ _ _ _ _ _ hd h hr')
  ·exact TV.loopOnce (hrec _ _ _ _ _ _ _ hd h hr')
  ·exact absurd h (Z5 _ _ _)
 ·exact sxN_spec hrec hd h hr
include hrec in
theorem sxSub_spec{c:Code}(_:d.Ok)(h:sxSub rec F g c K d=g.expect F)(hr:g.run=some r):TV P G c d.st (Qx P G (G9 P F r d.n) K):=by
 unfold sxSub at h
 split at h
 ·rename_i ε S k
  split at h
  ·rename_i hx
   simp only[T.expect,C.sub.injEq,heq_eq_eq,true_and] at h
   obtain⟨h1,h2,h3,h4,h5⟩:=h
   simp only[T.run] at hr
   split at hr
   ·rename_i e he
    have h6:=congrFun h5 e
    split at h6
    ·rename_i hok
     have key:=S.ok e he
     rw[←h1,←h2] at key
     have hq:Rel P G (Qx P G (G9 P F r d.n) K) (S.E e).ex ((S.E e).D d.n).st:=hrec _ _ _ _ _ ((S.E e).D d.n) _ (C4 hok) h6 hr
     refine TV.ghost (L7 (s:=d.st) hx h3 h4) (TV.rel key fun e' s hg=>?_)
     obtain⟨g1,g2⟩:=hg
     rw[g1]
     exact hq.ghost g2
    ·exact absurd h6 (Z5 _ _ _)
   ·simp at hr
  ·exact absurd h (Z5 _ _ _)
 ·exact absurd h (Z5 _ _ _)
include hrec hm in
theorem sxC_spec{c:Code}(hd:d.Ok)(h:sxC kp rec F g c K d=g.expect F)(hr:g.run=some r):TV P G c d.st (Qx P G (G9 P F r d.n) K):=by
 unfold sxC at h
 split at h
 ·exact TV.skipR (hrec _ _ _ _ _ _ _ hd h hr)
 ·exact TV.labelR (hrec _ _ _ _ _ _ _ hd h hr)
 ·exact TV.exitR (hrec _ _ _ _ _ _ _ hd h hr)
 ·exact TV.retR (hrec _ _ _ _ _ _ _ hd h hr)
 ·split at h
  ·exact sxSub_spec hrec hd h hr
  ·exact TV.seq (hrec _ _ _ _ _ _ _ hd h hr)
 ·exact sxR_spec hm hrec hd h hr
 ·exact sxB_spec hrec hd h hr
theorem Post.ghost{Q:Exit→St→Prop}{cur:Code⊕Exit}{st st':St}(g:Gst G st st')(h:Post P G Q cur K st'):Post P G Q cur K st:=by
 cases cur with
 | inl c=>exact TV.ghost g h
 | inr e=>exact Rel.ghost (P:=P) g h
include hrec hm in
theorem sxD_spec{cur:Code⊕Exit}(hd:d.Ok)(h:sxD kp rec F g cur K d=g.expect F)(hr:g.run=some r):Post P G (G9 P F r d.n) cur K d.st:=by
 unfold sxD at h
 split at h
 ·exact sxE_spec hrec hd h hr
 ·exact sxC_spec hm hrec hd h hr
include hrec hm in
theorem sxS_spec{cur:Code⊕Exit}(hd:d.Ok)(h:sxS kp rec F g cur K d=g.expect F)(hr:g.run=some r):Post P G (G9 P F r d.n) cur K d.st:=by
 unfold sxS at h
 split at h
 ·simp[T.run] at hr
 ·rename_i p i k
  simp only[T.expect,C.fact.injEq,heq_eq_eq,true_and] at h
  cases i with
  | isTrue hp=>exact hrec _ _ _ _ _ _ _ hd (congrFun h hp) hr
  | isFalse hp=>simp[T.run] at hr
 ·rename_i a w k
  split at h
  ·simp only[T.expect,C.gh.injEq] at h
   obtain⟨h1,h2⟩:=h
   obtain⟨d',x1,x2,x3,x4⟩:=ghX_spec (G:=G) h2 (fun j=>Z5 F k j) h1 hd
   have:=hrec _ _ _ _ _ _ _ x2 x1 (by simpa[T.run] using hr)
   rw[x4] at this
   exact this.ghost x3
  ·exact sxD_spec hm hrec hd h hr
 ·exact sxD_spec hm hrec hd h hr
end
theorem sx_ok{P:Program}{G:Nat→Option (List V)}{kp:List Nat}(hm:P.follows .mixedOrders=true):∀n,RecOk (sx P G kp n)
 | 0=>fun _ F g _ _ _ _ _ h _=>absurd h (Z5 F g 99)
 | n+1=>fun _ _ _ _ _ _ _ hd h hr=>sxS_spec hm (sx_ok hm n) hd h hr
def U6(args:List V):List (Nat×V):=args.zipIdx.map fun x=>(x.2,x.1)
def fnC(P:Program)(G:Nat→Option (List V))(kp:List Nat)(fn:Func)(args:List V)(x:Ext){ρ:Type}(g:T P G ρ)(res:ρ→V)(outs:ρ→List (Nat×Blk)):Bool×C:=
 (fn.body.isSome&&(x.ok&&x.bs.all fun p=>decide (1000000≤p.1)),sx P G kp 100000 ρ (.fn fn.results.toList res outs) g (.inl (fn.body.getD .skip)) [] (x.D (max fn.ntmps args.length)))
theorem argTs_find:∀(args:List V) (k i:Nat),(match ((args.zipIdx k).map fun x=>(x.2,x.1)).find? (fun p=>p.1==i+k) with|some p=>p.2|none=>V.undef)=args.getD i .undef
 | [],k,i=>rfl
 | v :: args,k,i=>by
  simp only[List.zipIdx_cons,ξf]
  cases i with
  | zero=>simp
  | succ i=>
   rw[ξg (by simp)]
   have:=argTs_find args (k+1) i
   rw[show i+1+k=i+(k+1) by omega]
   exact this
theorem callC_body{P:Program}{G:Nat→Option (List V)}{f:FuncId}{fn:Func}{c:Code}{n:Nat}{args:List V}{ins:Nat→Option Blk}{res:V}{outs:Nat→Option Blk}
  (hf:P.funcs[f]?=some fn) (hb:fn.body=some c) (hn:n=max fn.ntmps args.length)
  (h:∀(γ:Gh) (a:Act) (w:World),Sim G γ (entry n args ins) a.tmps w→a.defers=[]→CW none P c (fun e a' w'=>∃v0,A8 8 res v0=res∧O3 G ⟨none,[],true⟩ γ (entry n args ins) w (Done P fn.results.toList v0 outs) e a' w') a w):CallC P G f args ins res outs:=by
 intro γ w as hg ho ha hbl
 have hsz:as.size=args.length:=ha.1
 have hs:Sim G γ (entry n args ins) (as++Array.replicate (fn.ntmps - as.size) undef) w:=by
  refine⟨by simp only[Array.size_append,Array.size_replicate,entry,hn];omega,fun i=>?_,fun b k hk=>(hbl b k hk).2,fun b k hk=>(hbl b k hk).1,hg,ho⟩
  show Rep γ w ins uTop (args.getD i .undef) _
  by_cases hi:i < args.length
  ·have e1:args.getD i .undef=args[i]:=by simp[List.getD,ζd hi]
   have e2:(as++Array.replicate (fn.ntmps - as.size) undef).getD i undef=as[i]'(by omega):=by
    rw[ζW,Array.getElem?_append_left (by omega),ζg (by omega)];rfl
   rw[e1,e2]
   exact ha.2 i _ _ (ζd hi) (ζg (by omega))
  ·have e1:args.getD i .undef=.undef:=by rw[ζV,ξn (by omega)];rfl
   rw[e1];exact .undef _
 refine(callsIn_wide (n:=0)).1 (callsIn_of_wp_marks hf hb trivial (wpIn_mono (h γ ⟨as++Array.replicate (fn.ntmps - as.size) undef,[]⟩ w hs rfl) fun e a' w' hl=>?_))
 obtain⟨v0,hv0,st',γ',h1,⟨h2,h2p⟩,⟨Ds,_,m1,m2,m3⟩,he,hr,hout⟩:=hl
 have ble:L1 γ' st'.b st'.u γ' outs (fun _=>true):=by
  refine⟨fun _ _=>rfl,fun b _ hn=>?_,fun b k hk=>⟨rfl,?_⟩⟩
  ·cases ho:outs b with
   | none=>rfl
   | some k=>rw[hout b k ho] at hn;simp at hn
  ·cases ho:outs b with
   | none=>exact .inl rfl
   | some k'=>
    have:=hout b k' ho
    rw[hk] at this;simp only[ζa] at this;subst this
    exact .inr ⟨_,rfl,rfl,fun _=>rfl,rfl⟩
 have fin:LeavesInM (RF none) 0 P fn a'.tmps (fun e w'=>∃v γ',e=.returned v∧Grow γ w γ' w'∧Pin γ ins uTop γ' outs (fun _=>true)∧Rep γ' w' outs (fun _=>true) res v∧
   (∀b k,outs b=some k→L2 γ' w' outs (fun _=>true) b k)∧(∀B x,γ'.own B=some x→B < w'.heap.size)) a'.defers .returning w':=by
  rw[m1,ξk]
  refine C2 (fun w''=>Sim G γ' st' a'.tmps w''∧Grow γ w γ' w'') (fun w'' hI=>?_) Ds w' ⟨h1,h2⟩ m2 (fun D hD=>(m3 D hD).2.1) fun D w'' hD hI hd=>
   ⟨(Y4.put hd rfl).sim hI.1,hI.2.put hd rfl (m3 D hD).1⟩
  obtain⟨i1,i2⟩:=hI
  obtain⟨v,hv,hrep⟩:=run_resultsV (P:=P) i1 hr
  refine⟨v,hv,v,γ',rfl,i2,h2p.trans ble.pin,(by have:=coeV_rep 8 res v0 v (hrep.mono (.refl _ _) ble);rw[hv0] at this;exact this),fun b k hk=>?_,i1.o⟩
  rcases i1.b b k (hout b k hk) with h0|hm|⟨hM,B,o,cs,e,a1,a2,a3,a4,a5,a6,a7,a8⟩
  ·exact .inl h0
  ·exact .inr (.inl (hm.same rfl (fun B _ hB=>⟨hB,rfl⟩) fun c v hr=>hr.mono (.refl _ _) ble))
  refine .inr (.inr ⟨hM,B,o,cs,e,a1,a2,a3,a4,a5,fun i c hc=>?_,a7,a8⟩)
  obtain⟨x,b1,b2,b3,b4⟩:=a6 i c hc
  exact⟨x,b1,b2.mono (.refl _ _) ble,b3,b4⟩
 rcases he with rfl|rfl
 ·exact fin
 ·exact fin
theorem fn_ok{P:Program}{G:Nat→Option (List V)}{kp:List Nat}(hm:P.follows .mixedOrders=true){f:FuncId}{fn:Func}(hf:P.funcs[f]?=some fn){args:List V}{x:Ext}(hx:x.ts=U6 args){ρ:Type}{g:T P G ρ}
  {res:ρ→V} {outs:ρ→List (Nat×Blk)} (h:fnC P G kp fn args x g res outs=(true,g.expect (.fn fn.results.toList res outs))):∀r,g.run=some r→CallC P G f args (ofL x.bs) (res r) (ofL (outs r)):=by
 intro r hr
 simp only[fnC,ζP,ζA,ζE,ζF] at h
 obtain⟨⟨h1,h2,h3⟩,h4⟩:=h
 obtain⟨c,hc⟩:=Option.isSome_iff_exists.1 h1
 rw[hc] at h4
 have key:TV P G c (x.D (max fn.ntmps args.length)).st (G9 P (.fn fn.results.toList res outs) r _):=sx_ok hm 100000 _ _ _ _ _ _ _ (C4 h2) h4 hr
 have e:(x.D (max fn.ntmps args.length)).st=entry (max fn.ntmps args.length) args (ofL x.bs):=by
  unfold D.st Ext.D G0 entry
  simp only[St.mk.injEq,true_and]
  refine⟨funext fun i=>?_,rfl,funext fun i=>?_⟩
  ·rw[hx]
   have:=argTs_find args 0 i
   exact this
  ·cases hu:uTop i with
   | true=>simp
   | false=>
    simp only[Bool.or_false]
    refine Bool.eq_false_iff.2 fun hc=>?_
    simp only[Ext.us,ζD,ζF] at hc
    obtain⟨p,hp,rfl⟩:=ζt.1 hc
    have:=h3 p hp
    simp[uTop] at hu
    omega
 rw[e] at key
 intro γ w as hg ho ha hbl
 have key2:∀(γ:Gh) (a:Act) (w:World),Sim G γ (entry (max fn.ntmps args.length) args (ofL x.bs)) a.tmps w→a.defers=[]→
   CW none P c (fun e a' w'=>∃v0,A8 8 (res r) v0=res r∧O3 G ⟨none,[],true⟩ γ (entry (max fn.ntmps args.length) args (ofL x.bs)) w (Done P fn.results.toList v0 (ofL (outs r))) e a' w') a w:=fun γ a w hs hd=>
  wpIn_mono (key ⟨none,[],true⟩ γ a w hs ⟨hd,rfl,fun _ h=>by simp at h⟩) fun e a' w' hl=>by
   obtain⟨st',γ',k1,k2,k3,v0,k4,k5⟩:=hl
   exact⟨v0,k4,st',γ',k1,k2,k3,k5⟩
 exact callC_body hf hc rfl key2 γ w as hg ho ha hbl
def FnD(P:Program)(G:Nat→Option (List V))(kp:List Nat)(fn:Func)(args:List V){ρ:Type}(g:T P G ρ)(res:ρ→V):Prop:=
 fnC P G kp fn args (Ext.l .normal (U6 args) []) g res (fun _=>[])=(true,g.expect (.fn fn.results.toList res fun _=>[]))
def Spec.ofFn{P:Program}{G:Nat→Option (List V)}{kp:List Nat}(f:FuncId){fn:Func}{args:List V}{ρ:Type}{g:T P G ρ}{res:ρ→V}(hm:P.follows .mixedOrders=true)(hf:P.funcs[f]?=some fn)(k:FnD P G kp fn args g res):Spec P G ρ:=
 ⟨f,args,[],g.run,res,fun _=>[],[],fun _ _ h=>by simp at h,fn_ok hm hf rfl k⟩
def FnB(P:Program)(G:Nat→Option (List V))(kp:List Nat)(fn:Func)(args:List V)(x:Ext){ρ:Type}(g:T P G ρ)(res:ρ→V)(O:ρ→Ext):Prop:=
 fnC P G kp fn args x g res (fun r=>(O r).bs)=(true,g.expect (.fn fn.results.toList res fun r=>(O r).bs))
def Spec.ofFnB{P:Program}{G:Nat→Option (List V)}{kp:List Nat}(f:FuncId){fn:Func}{args:List V}{x:Ext}{ρ:Type}{g:T P G ρ}{res:ρ→V}{O:ρ→Ext}(dt:List Nat)(hm:P.follows .mixedOrders=true)(hf:P.funcs[f]?=some fn)(hx:x.ts=U6 args)
  (hdt:∀r,((O r).bs.all fun p=>!dt.contains p.1 || (O r).dt.contains p.1)=true) (k:FnB P G kp fn args x g res O):Spec P G ρ:=
 ⟨f,args,x.bs,g.run,res,fun r=>(O r).bs,dt,fun r p hp hd=>(O r).dat p hp (by
  have:=ζE.1 (hdt r) p hp
  simpa[hd] using this),fn_ok hm hf hx k⟩
def Q4(n:Int):Int:=IntKind.i64.wrap n
def Z4(n:Int):Int:=IntKind.u64.wrap n
def O4(n:Int):Int:=IntKind.u32.wrap n
def wu8(n:Int):Int:=IntKind.u8.wrap n
def bs(l:List UInt8):ByteArray:=⟨⟨l⟩⟩
def bAt(s:ByteArray)(i:Int):Int:=(s.data.getD i.toNat 0).toNat
def Y2(k:IntKind)(a b:Int):Int:=k.wrap (BitVec.ofInt k.bits a &&& BitVec.ofInt k.bits b).toNat
def bOr(k:IntKind)(a b:Int):Int:=k.wrap (BitVec.ofInt k.bits a ||| BitVec.ofInt k.bits b).toNat
def bXor(k:IntKind)(a b:Int):Int:=k.wrap (BitVec.ofInt k.bits a ^^^ BitVec.ofInt k.bits b).toNat
def V9(k:IntKind)(a b:Int):Int:=k.wrap (a * 2 ^ (min b.toNat k.bits))
def Z3(k:IntKind)(a b:Int):Int:=a.fdiv (2 ^ (min b.toNat k.bits))
def mlenn{α:Type}(t:Ty α)(l:List α):Nat:=(l.map t.c).length
def Y9{α:Type}(t:Ty α)(l:List α):Int:=(mlenn t l:Nat)
theorem mlenn_eq{α:Type}(t:Ty α)(l:List α):mlenn t l=l.length:=by simp[mlenn]
theorem E7{α:Type}(t:Ty α)(l:List α):Y9 t l=(l.length:Int):=by simp[Y9,mlenn]
def ReW.tmp(d:Nat)(a b:V)(h:a=b):ReW:=⟨[.t d a],[.t d b],by rw[h],[],fun _ _ h=>by simp at h⟩
def ReW.cutHi{α:Type}(d z:Nat)(t:Ty α)(l:List α)(h:Nat):ReW:=.tmp d (.sl false z (((l.map t.c).take h).drop 0)) (.sl false z ((l.take h).map t.c)) (by simp)
def ReW.put{α:Type}(i z:Nat)(t:Ty α)(l:List α)(j:Nat)(y:α):ReW:=
 ⟨[.b i (some ⟨z,true,(l.map t.c).set j (t.c y)⟩)],[.b i (some ⟨z,true,(l.set j y).map t.c⟩)],by rw[List.map_set],[i],fun b k h _=>by
  simp only[ζu,Wr.b.injEq,ζa] at h
  obtain⟨_,rfl⟩:=h
  exact t.data _⟩
def Ok{P:Program}{G:Nat→Option (List V)}{ρ:Type}(g:T P G ρ)(Q:ρ→Prop):Prop:=∃r,g.run=some r∧Q r
def SOk{P:Program}{G:Nat→Option (List V)}{ρ:Type}(s:Spec P G ρ)(Q:ρ→Prop):Prop:=∃r,s.o=some r∧Q r
section
variable {P:Program} {G:Nat→Option (List V)} {ρ:Type} {Q:ρ→Prop}
theorem SOk.o{s:Spec P G ρ}{r:ρ}(h:s.o=some r):SOk s (fun x=>x=r):=⟨r,h,rfl⟩
theorem SOk.eq{s:Spec P G ρ}{r:ρ}(h:SOk s (fun x=>x=r)):s.o=some r:=by obtain⟨x,h1,rfl⟩:=h;exact h1
theorem Ok.d{r:ρ}(h:Q r):Ok (.done r:T P G ρ) Q:=⟨r,rfl,h⟩
theorem Ok.e{a:Nat}{c:Bool}{x y:T P G ρ}(h1:c=true→Ok x Q)(h2:c=false→Ok y Q):Ok (.br a c x y) Q:=by
 cases c with
 | true=>obtain⟨r,e,hq⟩:=h1 rfl;exact⟨r,e,hq⟩
 | false=>obtain⟨r,e,hq⟩:=h2 rfl;exact⟨r,e,hq⟩
theorem Ok.tt{k:T P G ρ}(h:Ok k Q):Ok (.tt k) Q:=h
theorem Ok.ff{k:T P G ρ}(h:Ok k Q):Ok (.ff k) Q:=h
theorem Ok.re{a:Nat}{w:ReW}{k:T P G ρ}(h:Ok k Q):Ok (.re a w k) Q:=h
theorem Ok.g{a:Nat}{w:GhW}{k:T P G ρ}(h:Ok k Q):Ok (.gh a w k) Q:=h
theorem Ok.k{a:Nat}{c:Bool}{k:T P G ρ}(hc:c=true)(h:Ok k Q):Ok (.chk a c k) Q:=by
 subst hc;obtain⟨r,e,hq⟩:=h;exact⟨r,e,hq⟩
theorem Ok.r{α:Type}{a:Nat}{ty:Ty α}{l:List α}{j:Nat}{c:Bool}{k:α→T P G ρ}{x:α}(hc:c=true)(hx:l[j]?=some x)(h:Ok (k x) Q):Ok (.row a ty l j c k) Q:=by
 subst hc;obtain⟨r,e,hq⟩:=h
 exact⟨r,by simp only[T.run,cond_true,hx];exact e,hq⟩
theorem Ok.app{α:Type}{a:Nat}{ty:Ty α}{l x:List α}{bytes:Nat}{fl:Bool}{hf:fl=true→∀y,ty.c y=ty.d y}{k:T P G ρ}(hn:(l.length+x.length) * bytes≤140737488355328)(h:Ok k Q):Ok (.app a ty l x bytes fl hf k) Q:=by
 obtain⟨r,e,hq⟩:=h
 exact⟨r,by simp only[T.run,ξr hn,cond_true];exact e,hq⟩
theorem Ok.c{α:Type}{a:Nat}{s:Spec P G α}{Li Lo:List (Nat×Nat)}{k:α→T P G ρ}{R:α→Prop}(hs:SOk s R)(h:∀r,R r→Ok (k r) Q):Ok (.call a s Li Lo k) Q:=by
 obtain⟨x,e1,hr⟩:=hs
 obtain⟨r,e,hq⟩:=h x hr
 exact⟨r,by simp only[T.run,e1];exact e,hq⟩
theorem Ok.v{α:Type}{a:Nat}{s:Spec P G α}{vs:List VwW}{k:α→T P G ρ}{R:α→Prop}(hs:SOk s R)(h:∀r,R r→Ok (k r) Q):Ok (.view a s vs k) Q:=by
 obtain⟨x,e1,hr⟩:=hs
 obtain⟨r,e,hq⟩:=h x hr
 exact⟨r,by simp only[T.run,e1];exact e,hq⟩
theorem Ok.call2{α β:Type}{a:Nat}{s:Spec P G (α⊕β)}{Li Lo:List (Nat×Nat)}{k:α→T P G ρ}{k2:β→T P G ρ}{R:α⊕β→Prop}(hs:SOk s R)(h:∀r,R (.inl r)→Ok (k r) Q)(h2:∀r,R (.inr r)→Ok (k2 r) Q):Ok (.call2 a s Li Lo k k2) Q:=by
 obtain⟨x,e1,hr⟩:=hs
 cases x with
 | inl x=>obtain⟨r,e,hq⟩:=h x hr;exact⟨r,by simp only[T.run,e1];exact e,hq⟩
 | inr x=>obtain⟨r,e,hq⟩:=h2 x hr;exact⟨r,by simp only[T.run,e1];exact e,hq⟩
theorem Ok.n{ε:Type}{id:Nat}{ts:List Nat}{first:T P G ε}{E:ε→List V}{k:ε→T P G ρ}{R:ε→Prop}(hf:Ok first R)(h:∀e,R e→Ok (k e) Q):Ok (.cnd id ts first E k) Q:=by
 obtain⟨x,e1,hr⟩:=hf
 obtain⟨r,e,hq⟩:=h x hr
 exact⟨r,by simp only[T.run,e1];exact e,hq⟩
theorem Ok.b{ε:Type}{j:Nat}{first:T P G ε}{E:ε→Ext}{k:ε→T P G ρ}{R:ε→Prop}(hf:Ok first R)(h:∀e,R e→Ok (k e) Q):Ok (.bind j first E k) Q:=by
 obtain⟨x,e1,hr⟩:=hf
 obtain⟨r,e,hq⟩:=h x hr
 exact⟨r,by simp only[T.run,e1];exact e,hq⟩
theorem Ok.p{ε ζ:Type}{j:Nat}{first:T P G (ε⊕ζ)}{E:ε→Ext}{E2:ζ→Ext}{k:ε→T P G ρ}{k2:ζ→T P G ρ}{R:ε⊕ζ→Prop}(hf:Ok first R)(h:∀e,R (.inl e)→Ok (k e) Q)(h2:∀e,R (.inr e)→Ok (k2 e) Q):Ok (.bind2 j first E E2 k k2) Q:=by
 obtain⟨x,e1,hr⟩:=hf
 cases x with
 | inl x=>obtain⟨r,e,hq⟩:=h x hr;exact⟨r,by simp only[T.run,e1];exact e,hq⟩
 | inr x=>obtain⟨r,e,hq⟩:=h2 x hr;exact⟨r,by simp only[T.run,e1];exact e,hq⟩
theorem Ok.ceq{a:Nat}{n:Int}{vs:List Int}{k:Int→T P G ρ}(hn:vs.contains n=true)(h:Ok (k n) Q):Ok (.ceq a n vs k) Q:=by
 obtain⟨r,e,hq⟩:=h
 exact⟨r,by simp only[T.run,hn,cond_true];exact e,hq⟩
theorem iter_inv{σ ε:Type}{f:σ→Option (σ⊕ε)}(I:σ→Prop)(μ:σ→Nat)(R:ε→Prop)
  (step:∀x,I x→∃r,f x=some r∧(match r with|.inl y=>I y∧μ y < μ x|.inr e=>R e)):∀n x,I x→μ x < n→∃e,I8 f n x=some e∧R e
 | 0,x,_,h=>absurd h (Nat.not_lt_zero _)
 | n+1,x,hx,h=>by
  have e1:I8 f (n+1) x=(match f x with|none=>none|some (.inl y)=>I8 f n y|some (.inr e)=>some e):=rfl
  rw[e1]
  obtain⟨r,hr,hq⟩:=step x hx
  rw[hr]
  cases r with
  | inl y=>exact iter_inv I μ R step n y hq.1 (by have:=hq.2;omega)
  | inr e=>exact⟨e,rfl,hq⟩
def Rnd{σ ε:Type}(I:σ→Prop)(μ:σ→Nat)(m:Nat)(R:ε→Prop):σ⊕ε→Prop
 | .inl y=>I y∧μ y < m
 | .inr e=>R e
theorem Ok.lp{σ ε:Type}{S:σ→Ext}{body:σ→T P G (σ⊕ε)}{x:σ}{R:ε→Prop}(I:σ→Prop)(μ:σ→Nat)(hx:I x)(hm:μ x < FUEL)(step:∀y,I y→Ok (body y) (Rnd I μ (μ y) R)):Ok (.lp S body x) R:=by
 refine iter_inv I μ R (fun y hy=>?_) FUEL x hx hm
 obtain⟨r,h1,h2⟩:=step y hy
 refine⟨r,h1,?_⟩
 cases r<;>exact h2
end
def E8(agg:Bool)(l:List V):V:=match agg with
 | true=>.agg l
 | false=>l.headD .undef
def P9(P:Program)(t:TypeId)(xs ys:List V):Option Bool:=
 match P.underlying t with
 | some (.int _)=>match xs,ys with
  | [.int k a],[.int k' b]=>if k=k' then some (a==b) else none
  | _,_=>none
 | some .string=>match xs,ys with
  | [.str a],[.str b]=>some (decide (a=b))
  | _,_=>none
 | some (.struct _)=>eqDeepV P t xs ys
 | some (.array _ _)=>eqArrV P t xs ys
 | _=>none
theorem keyEq_int{P:Program}{t:TypeId}{k:IntKind}(hu:P.underlying t=some (.int k)){xs ys:List V}{q:Bool}(h:P9 P t xs ys=some q):∃k1 a b,xs=[.int k1 a]∧ys=[.int k1 b]∧q=(a==b):=by
 unfold P9 at h
 rw[hu] at h
 simp only at h
 split at h
 ·split at h
  ·rename_i e
   simp only[ζa] at h
   subst e
   exact⟨_,_,_,rfl,rfl,h.symm⟩
  ·simp at h
 ·simp at h
theorem keyEq_str{P:Program}{t:TypeId}(hu:P.underlying t=some .string){xs ys:List V}{q:Bool}(h:P9 P t xs ys=some q):∃a b,xs=[.str a]∧ys=[.str b]∧q=decide (a=b):=by
 unfold P9 at h
 rw[hu] at h
 simp only at h
 split at h
 ·simp only[ζa] at h
  exact⟨_,_,rfl,rfl,h.symm⟩
 ·simp at h
def H0(P:Program)(t:TypeId):Bool:=match P.underlying t with
 | some (.struct _)=>true
 | some (.array _ _)=>true
 | _=>false
theorem isAggK_kind{P:Program}{t:TypeId}(h:H0 P t=true):(∃fs,P.underlying t=some (.struct fs))∨∃n e,P.underlying t=some (.array n e):=by
 unfold H0 at h
 split at h
 ·rename_i fs hu;exact .inl ⟨fs,hu⟩
 ·rename_i n e hu;exact .inr ⟨n,e,hu⟩
 ·simp at h
theorem keyEq_kind{P:Program}{t:TypeId}{xs ys:List V}{q:Bool}(h:P9 P t xs ys=some q):(∃k,P.underlying t=some (.int k))∨P.underlying t=some .string∨H0 P t=true:=by
 unfold P9 at h
 split at h
 ·rename_i k hu;exact .inl ⟨k,hu⟩
 ·rename_i hu;exact .inr (.inl hu)
 ·rename_i fs hu;exact .inr (.inr (by simp[H0,hu]))
 ·rename_i fs hu;exact .inr (.inr (by simp[H0,hu]))
 ·simp at h
theorem keyEq_flat{P:Program}{t:TypeId}{xs ys:List V}{q:Bool}(ha:H0 P t=true)(h:P9 P t xs ys=some q):U4 xs ys=some q:=by
 unfold P9 at h
 rcases isAggK_kind ha with⟨fs,hu⟩|⟨n,e,hu⟩
 ·rw[hu] at h
  simp only at h
  unfold eqDeepV at h
  rw[hu] at h
  simp only at h
  split at h
  ·exact h
  ·simp at h
 ·rw[hu] at h
  simp only at h
  unfold eqArrV at h
  rw[hu] at h
  simp only at h
  split at h
  ·exact h
  ·simp at h
theorem run_equal_agg{P:Program}{γ:Gh}{w:World}{bs:Nat→Option Blk}{u:Nat→Bool}{t:TypeId}{xs ys:List V}{r:Bool}(h:eqDeepV P t xs ys=some r)
  {x y:Value} (hx:Rep γ w bs u (.agg xs) x) (hy:Rep γ w bs u (.agg ys) y):(Op.equal t x y).run P w=.ok r w:=by
 unfold eqDeepV at h
 split at h
 ·rename_i fs hu
  split at h
  ·rename_i hc
   simp only[ζA,ζB] at hc
   obtain⟨⟨hf,hp⟩,hg⟩:=hc
   obtain⟨vx,rfl,lx,cx⟩:=hx.agg_inv
   obtain⟨vy,rfl,ly,cy⟩:=hy.agg_inv
   have hfo:P.fieldsOf t=fs:=by simp[Program.fieldsOf,hu]
   show (Op.equalIn 10000 t (.agg vx.toArray) (.agg vy.toArray)).run P w=.ok r w
   rw[show (10000:Nat)=9999+1 from rfl,run_equalIn_struct w 9999 t _ _ (by rw[hfo];exact hu) hp,hfo]
   refine run_eqDeep (γ:=γ) (bs:=bs) (u:=u) 100 9999 _ _ fs.toList 0 xs ys r (by omega) hf h ?_ ?_
   ·intro i c hc
    obtain⟨hlt,_⟩:=ζe.1 hc
    have hv:vx[i]?=some (vx[i]'(by omega)):=ζd (by omega)
    exact⟨_,by simp,cx i c _ hc hv⟩
   ·intro i c hc
    obtain⟨hlt,_⟩:=ζe.1 hc
    have hv:vy[i]?=some (vy[i]'(by omega)):=ζd (by omega)
    exact⟨_,by simp,cy i c _ hc hv⟩
  ·simp at h
 ·simp at h
theorem run_equal_key{P:Program}{γ:Gh}{w:World}{bs:Nat→Option Blk}{u:Nat→Bool}{t:TypeId}{xs ys:List V}{r:Bool}(ha:H0 P t=true)(h:P9 P t xs ys=some r)
  {x y:Value} (hx:Rep γ w bs u (.agg xs) x) (hy:Rep γ w bs u (.agg ys) y):(Op.equal t x y).run P w=.ok r w:=by
 unfold P9 at h
 rcases isAggK_kind ha with⟨fs,hu⟩|⟨n,e,hu⟩
 ·rw[hu] at h
  exact run_equal_agg h hx hy
 ·rw[hu] at h
  exact run_equal_arr h hx hy
theorem run_checkDeep{P:Program}{γ:Gh}{w:World}{bs:Nat→Option Blk}{u:Nat→Bool}(em:Bool) :
  ∀(n e:Nat) (xs:Array Value) (fs:List Field) (j:Nat) (cs:List V),n≤e→W6 P n fs j cs=true→(∀(i:Nat) (c:V),cs[i]?=some c→∃v,xs[j+i]?=some v∧Rep γ w bs u c v)→
   (forIn fs PUnit.unit (fun f _ => if f.name ≠ "_" then (do
     let c ←part f.type xs f.offset
     Instr.checkKey em e f.type c
     pure (ForInStep.yield PUnit.unit)) else pure (ForInStep.yield PUnit.unit)):Sem PUnit).run P w=.ok PUnit.unit w
 | 0,_,_,_,_,_,_,hf,_=>by simp[W6] at hf
 | n+1,0,_,_,_,_,hn,_,_=>by omega
 | n+1,e+1,xs,[],j,cs,hn,hf,hx=>by simp
 | n+1,e+1,xs,f :: fs,j,cs,hn,hf,hx=>by
  simp only[W6,ζA,beq_iff_eq,bne_iff_ne,ne_eq] at hf
  obtain⟨⟨ho,hname⟩,hk⟩:=hf
  have shift:∀(m:Nat) (i:Nat) (c:V),(cs.drop m)[i]?=some c→∃v,xs[j+m+i]?=some v∧Rep γ w bs u c v:=fun m i c hc=>by
   rw[ζy] at hc
   have:=hx (m+i) c hc
   rwa [show j+(m+i)=j+m+i by omega] at this
  have fin:∀(m:Nat) (x:Value),W6 P n fs (j+m) (cs.drop m)=true→(part f.type xs f.offset).run P w=.ok x w→(Instr.checkKey em (e+1) f.type x).run P w=.ok () w→
    (forIn (f :: fs) PUnit.unit (fun f _ => if f.name ≠ "_" then (do
     let c ←part f.type xs f.offset
     Instr.checkKey em (e+1) f.type c
     pure (ForInStep.yield PUnit.unit)) else pure (ForInStep.yield PUnit.unit)):Sem PUnit).run P w=.ok PUnit.unit w:=by
   intro m x h1 h2 h3
   have ih:=run_checkDeep em n (e+1) xs fs (j+m) (cs.drop m) (by omega) h1 (shift m)
   simp only[List.forIn_cons,ζT,ne_eq,hname,not_false_eq_true,if_true,h2,h3,ζQ,ζU]
   exact ih
  have part1:∀{d:TypeDesc} (z:Value),P.underlying f.type=some d→(∀q,d≠.struct q)→(∀p q,d≠.array p q)→xs[j]?=some z→(part f.type xs f.offset).run P w=.ok z w:=by
   intro d z hu h1 h2 hz
   cases d<;>first|exact absurd rfl (h1 _)|exact absurd rfl (h2 _ _)|simp[part,H8 hu,ho,hz]
  split at hk
  ·rename_i gs hu
   split at hk
   rotate_left
   ·simp at hk
   rename_i i hi
   simp only[ζA,ζB,ζF] at hk
   obtain⟨⟨⟨_,hlen⟩,hin⟩,hrest⟩:=hk
   have px:(part f.type xs f.offset).run P w=.ok (.agg (xs.extract j (j+i.size))) w:=by simp[part,H8 hu,sizeOf,typeInfo,hi,ho]
   refine fin i.size _ hrest px ?_
   have inner:=run_checkDeep (γ:=γ) (w:=w) (bs:=bs) (u:=u) em n e (xs.extract j (j+i.size)) gs.toList 0 (cs.take i.size) (by omega) hin fun q c hc=>by
    rw[ζx] at hc
    split at hc
    ·rename_i hq
     obtain⟨v,h3,h4⟩:=hx q c hc
     refine⟨v,?_,h4⟩
     have hz:=(ζf.1 h3).1
     rw[ξv,Array.getElem?_extract]
     have:q < min (j+i.size) xs.size - j:=by omega
     rw[if_pos this];exact h3
    ·simp at hc
   rw[Instr.checkKey]
   simp only[ζT,ζO hu,ζQ]
   rw[←Array.forIn_toList]
   simp only[inner,ζQ,ζU]
  ·rename_i ik hu
   split at hk
   rotate_left
   ·simp at hk
   rename_i k a cs
   obtain⟨x,h0,hxr⟩:=hx 0 _ rfl
   have:=hxr.int_inv;subst this
   exact fin 1 _ hk (part1 _ hu (by simp) (by simp) h0) (by simp[Instr.checkKey,ζO hu])
  ·rename_i hu
   split at hk
   rotate_left
   ·simp at hk
   obtain⟨x,h0,hxr⟩:=hx 0 _ rfl
   exact fin 1 _ hk (part1 _ hu (by simp) (by simp) h0) (by simp[Instr.checkKey,ζO hu])
  ·rename_i hu
   split at hk
   rotate_left
   ·simp at hk
   obtain⟨x,h0,hxr⟩:=hx 0 _ rfl
   exact fin 1 _ hk (part1 _ hu (by simp) (by simp) h0) (by simp[Instr.checkKey,ζO hu])
  ·simp at hk
section
variable {P:Program} {γ:Gh} {w:World} {bs:Nat→Option Blk} {u:Nat→Bool}
theorem run_checkKeyV{t:TypeId}{xs:List V}(h:(P9 P t xs xs).isSome=true){v:Value}(hr:Rep γ w bs u (E8 (H0 P t) xs) v)(em:Bool):(Instr.checkKey em 10000 t v).run P w=.ok () w:=by
 obtain⟨q,h⟩:=Option.isSome_iff_exists.1 h
 unfold P9 at h
 split at h
 ·rename_i k hu
  have ha:H0 P t=false:=by simp[H0,hu]
  rw[ha] at hr
  split at h
  ·have:=Rep.int_inv (hr:Rep γ w bs u (.int _ _) v);subst this
   exact(fun n=>by simp[Instr.checkKey,ζO hu]:∀n,(Instr.checkKey em (n+1) t _).run P w=.ok () w) 9999
  ·simp at h
 ·rename_i hu
  have ha:H0 P t=false:=by simp[H0,hu]
  rw[ha] at hr
  split at h
  ·have:=Rep.str_inv (hr:Rep γ w bs u (.str _) v);subst this
   exact(fun n=>by simp[Instr.checkKey,ζO hu]:∀n,(Instr.checkKey em (n+1) t _).run P w=.ok () w) 9999
  ·simp at h
 ·rename_i fs hu
  have ha:H0 P t=true:=by simp[H0,hu]
  rw[ha] at hr
  obtain⟨vs,rfl,lx,cx⟩:=(hr:Rep γ w bs u (.agg xs) v).agg_inv
  unfold eqDeepV at h
  rw[hu] at h
  simp only at h
  split at h
  ·rename_i hc
   simp only[ζA,ζB] at hc
   rw[show (10000:Nat)=9999+1 from rfl,Instr.checkKey]
   simp only[ζT,ζO hu,ζQ]
   rw[←Array.forIn_toList]
   have key:=run_checkDeep (γ:=γ) (w:=w) (bs:=bs) (u:=u) em 100 9999 vs.toArray fs.toList 0 xs (by omega) hc.1.1 fun i c hc=>by
    have hlt:=(ζe.1 hc).1
    have hv:vs[i]?=some (vs[i]'(by omega)):=ζd (by omega)
    exact⟨_,by simp,cx i c _ hc hv⟩
   simp only[key,ζQ,ζU]
  ·simp at h
 ·rename_i n e hu
  have ha:H0 P t=true:=by simp[H0,hu]
  rw[ha] at hr
  obtain⟨vs,rfl,lx,cx⟩:=(hr:Rep γ w bs u (.agg xs) v).agg_inv
  unfold eqArrV at h
  rw[hu] at h
  simp only at h
  split at h
  ·rename_i hc
   simp only[ζA,ζB,ζF] at hc
   obtain⟨⟨⟨⟨hn,hf⟩,h1⟩,hi⟩,hg⟩:=hc
   obtain⟨i,hi⟩:=Option.isSome_iff_exists.1 hi
   rw[show (10000:Nat)=9998+1+1 from rfl,Instr.checkKey]
   simp only[ζT,ζO hu,ζQ]
   simp only[Std.Legacy.Range.forIn_eq_forIn_range',Std.Legacy.Range.size,Nat.sub_zero,Nat.add_one_sub_one,Nat.div_one]
   have key:=run_checkItems (P:=P) (w:=w) em 9998 e vs.toArray hi h1 xs 0 hf (by simp[lx])
   rw[hn] at key
   simp only[key,ζQ,ζU]
  ·simp at h
 ·simp at h
def C3:List Bool→List MapEntry→Nat→Option (Nat×Value)
 | q :: qs,e :: es,i=>match q with
  | true=>some (i,e.val)
  | false=>C3 qs es (i+1)
 | _,_,_=>none
theorem firstAt_idx{α:Type}(p:α→Bool):∀(l:List α) (es:List MapEntry) (i:Nat),es.length=l.length→
  C3 (l.map p) es i=match l.findIdx? p with|some j=>(es[j]?).map fun e=>(i+j,e.val)|none=>none
 | [],[],i,_=>rfl
 | [],e :: es,i,h=>by simp at h
 | x :: l,[],i,h=>by simp at h
 | x :: l,e :: es,i,h=>by
  simp only[ξf,C3,List.findIdx?_cons]
  cases hp:p x with
  | true=>simp
  | false=>
   simp only[Bool.false_eq_true,if_false]
   rw[firstAt_idx p l es (i+1) (by simpa using h)]
   cases l.findIdx? p with
   | none=>rfl
   | some j=>simp[Nat.add_assoc,Nat.add_comm 1 j]
theorem run_findKeyV{t:TypeId}{xs:List V}{kv:Value}(hk:Rep γ w bs u (E8 (H0 P t) xs) kv)(es:List MapEntry)(qs:List Bool)
  (hl:qs.length=es.length) (h:∀(j:Nat) (e:MapEntry),es[j]?=some e→∃q ys,qs[j]?=some q∧P9 P t xs ys=some q∧Rep γ w bs u (E8 (H0 P t) ys) e.key) (hs:(P9 P t xs xs).isSome=true) :
  (Instr.findKey t kv es).run P w=.ok (C3 qs es 0) w:=by
 obtain⟨q0,hs⟩:=Option.isSome_iff_exists.1 hs
 have now:∀d,P.underlying t=some d→(∀(j:Nat) (e:MapEntry),es[j]?=some e→∃q,qs[j]?=some q∧Instr.sameNow d kv e.key=some q)→(Instr.findKey t kv es).run P w=.ok (C3 qs es 0) w:=fun d hu hq=>by
  refine MapKept.run_findKey hu ?_
  have gen:∀(es:List MapEntry) (qs:List Bool) (i:Nat),qs.length=es.length→(∀(j:Nat) (e:MapEntry),es[j]?=some e→∃q,qs[j]?=some q∧Instr.sameNow d kv e.key=some q)→Instr.findNow d kv es i=some (C3 qs es i):=by
   intro es
   induction es with
   | nil=>intro qs i hl _;cases qs with|nil=>rfl|cons=>simp at hl
   | cons e es ih=>
    intro qs i hl hq
    cases qs with
    | nil=>simp at hl
    | cons q qs=>
     obtain⟨q',h1,h2⟩:=hq 0 e rfl
     simp only[ξo,ζa] at h1
     subst h1
     simp only[Instr.findNow,h2,C3]
     cases q with
     | true=>rfl
     | false=>exact ih qs (i+1) (by simpa using hl) fun j e' he=>by simpa using hq (j+1) e' (by simpa using he)
  exact gen es qs 0 hl hq
 rcases keyEq_kind hs with⟨k,hu⟩|hu|ha
 ·have ha:H0 P t=false:=by simp[H0,hu]
  rw[ha] at hk
  obtain⟨k1,a,_,rfl,_⟩:=keyEq_int hu hs
  have:=Rep.int_inv (hk:Rep γ w bs u (.int k1 a) kv);subst this
  refine now _ hu fun j e he=>?_
  obtain⟨q,ys,h1,h2,h3⟩:=h j e he
  refine⟨q,h1,?_⟩
  obtain⟨k2,a2,b2,e1,rfl,rfl⟩:=keyEq_int hu h2
  simp only[List.cons.injEq,V.int.injEq,and_true] at e1
  obtain⟨rfl,rfl⟩:=e1
  rw[ha] at h3
  rw[Rep.int_inv (h3:Rep γ w bs u (.int k1 b2) e.key)]
  simp[Instr.sameNow]
 ·have ha:H0 P t=false:=by simp[H0,hu]
  rw[ha] at hk
  obtain⟨a,_,rfl,_⟩:=keyEq_str hu hs
  have:=Rep.str_inv (hk:Rep γ w bs u (.str a) kv);subst this
  refine now _ hu fun j e he=>?_
  obtain⟨q,ys,h1,h2,h3⟩:=h j e he
  refine⟨q,h1,?_⟩
  obtain⟨a2,b2,e1,rfl,rfl⟩:=keyEq_str hu h2
  simp only[List.cons.injEq,V.str.injEq,and_true] at e1
  subst e1
  rw[ha] at h3
  rw[Rep.str_inv (h3:Rep γ w bs u (.str b2) e.key)]
  simp only[Instr.sameNow,ζa]
  exact Bool.eq_iff_iff.2 (by rw[MapKept.bytes_beq];simp)
 ·rw[ha] at hk
  have e1:(Instr.findKey t kv es).run P w=(Instr.findAsking t kv es).run P w:=by
   rcases isAggK_kind ha with⟨fs,hu⟩|⟨n,e,hu⟩
   ·cases es with
    | nil=>simp[Instr.findKey,ζO hu,Instr.findNow,Instr.findAsking]
    | cons e es=>simp[Instr.findKey,ζO hu,Instr.findNow,Instr.sameNow]
   ·cases es with
    | nil=>simp[Instr.findKey,ζO hu,Instr.findNow,Instr.findAsking]
    | cons e es=>simp[Instr.findKey,ζO hu,Instr.findNow,Instr.sameNow]
  rw[e1]
  have gen:∀(es:List MapEntry) (qs:List Bool) (i:Nat),qs.length=es.length→(∀(j:Nat) (e:MapEntry),es[j]?=some e→∃q,qs[j]?=some q∧(Op.equal t kv e.key).run P w=.ok q w)→(Instr.findAsking t kv es i).run P w=.ok (C3 qs es i) w:=by
   intro es
   induction es with
   | nil=>intro qs i hl _;cases qs with|nil=>rfl|cons=>simp at hl
   | cons e es ih=>
    intro qs i hl hq
    cases qs with
    | nil=>simp at hl
    | cons q qs=>
     obtain⟨q',h1,h2⟩:=hq 0 e rfl
     simp only[ξo,ζa] at h1
     subst h1
     simp only[Instr.findAsking,ζT,h2,ζQ,C3]
     cases q with
     | true=>simp
     | false=>simpa using ih qs (i+1) (by simpa using hl) fun j e' he=>by simpa using hq (j+1) e' (by simpa using he)
  refine gen es qs 0 hl fun j e he=>?_
  obtain⟨q,ys,h1,h2,h3⟩:=h j e he
  refine⟨q,h1,?_⟩
  rw[ha] at h3
  exact run_equal_key ha h2 hk h3
end
theorem Sim.newMap{G:Nat→Option (List V)}{γ:Gh}{st:St}{tmps:Array Value}{w:World}(h:Sim G γ st tmps w){d z:Nat}(hM:W9≤z)(hu:st.u d=false) :
  Sim G (γ.add d w.heap.size) (st.setB d ⟨z,true,[]⟩) tmps (w.alloc (.map #[] 0))∧Grow γ w (γ.add d w.heap.size) (w.alloc (.map #[] 0))∧
   L1 γ st.b st.u (γ.add d w.heap.size) (st.setB d ⟨z,true,[]⟩).b (st.setB d ⟨z,true,[]⟩).u:=by
 have hh:(w.alloc (.map #[] 0)).heap=w.heap.push (.map #[] 0):=rfl
 have g:=Grow.push (γ:=γ) (w1:=w.alloc (.map #[] 0)) hh ⟨rfl,rfl,rfl⟩ d
 have bl:L1 γ st.b st.u (γ.add d w.heap.size) (st.setB d ⟨z,true,[]⟩).b (st.setB d ⟨z,true,[]⟩).u:=h.bsLe_new hu fun b hb=>by simp only[Gh.add];rw[if_neg hb]
 refine⟨⟨h.n,fun i=>(h.t i).mono g bl,fun b k hk=>?_,fun b k hk=>?_,h.g.grow g,fun B x hx=>?_⟩,g,bl⟩
 ·simp only[St.setB] at hk
  by_cases hb:b=d
  ·subst hb
   rw[if_pos rfl] at hk
   simp only[ζa] at hk;subst hk
   refine .inr (.inl ⟨hM,w.heap.size,#[],0,by simp[Gh.add],by simp[Gh.add],by rw[hh];simp,rfl,fun r hr=>by simp at hr,⟨fun e he=>by simp at he,by simp,fun e he=>by simp at he⟩,fun i c hc=>by simp at hc⟩)
  ·rw[if_neg hb] at hk
   have hlt:∀B x,γ.own B=some x→B < w.heap.size∧B≠w.heap.size:=fun B x hx=>by have:=h.o B x hx;omega
   rcases h.b b k hk with⟨v1,v2⟩|hm|⟨hM2,B,o,cs',e',h1,h2,h3,h4,h5,h6,h7,h8⟩
   ·exact .inl ⟨by simp only[Gh.add];rw[if_neg hb];exact v1,v2⟩
   ·exact .inr (.inl (hm.same (by simp only[Gh.add];rw[if_neg hb]) (fun B _ hB=>⟨by simp only[Gh.add];rw[if_neg (hlt B _ hB).2];exact hB,D7 hh (hlt B _ hB).1⟩) fun c v hr=>hr.mono g bl))
   ·have hne:=(hlt B _ h2).2
    refine .inr (.inr ⟨hM2,B,o,cs',e',by simp only[Gh.add];rw[if_neg hb];exact h1,by simp only[Gh.add];rw[if_neg hne];exact h2,h3.of_eq (D7 hh (hlt B _ h2).1),h4,h5,fun i c hc=>?_,
     by simp only[Gh.add];rw[if_neg hne];exact h7,by simp only[Gh.add];rw[if_neg hne];exact h8⟩)
    obtain⟨v,a1,a2,a3,a4⟩:=h6 i c hc
    refine⟨v,a1,a2.mono g bl,a3,?_⟩
    replace a4:=a4.grow g (fun B hB=>by
     have:=h.o _ _ hB
     simp only[Gh.add];rw[if_neg (by omega)];exact ζK _)
    unfold E5 at a4 ⊢
    split at a4
    ·rcases a4 with a4|a4
     ·exact .inl a4
     refine .inr ?_
     have hab:=(hlt _ _ a4.1.1).2
     simp only[Gh.add];rw[if_neg hab,if_neg hab];exact a4
    ·trivial
 ·simp only[St.setB] at hk ⊢
  by_cases hb:b=d
  ·subst hb;simp
  ·rw[if_neg hb] at hk;rw[if_neg hb];exact h.u b k hk
 ·simp only[Gh.add] at hx
  rw[hh];simp only[Array.size_push]
  split at hx
  ·omega
  ·have:=h.o B x hx;omega
theorem Grow.putMap{γ:Gh}{w:World}{B clock clock':Nat}{es es':Array MapEntry}{x:H4}(hheap:w.heap[B]?=some (.map es clock))(hown:γ.own B=some x):Grow γ w γ (w.putObj B (.map es' clock')) where
 os:=rfl
 tape:=rfl
 output:=rfl
 size:=by simp
 imm:=fun B' o v _ hc=>by
  have hne:B'≠B:=fun e=>by
   subst e
   obtain⟨cs,e,fz,h⟩:=cellAt_block hc
   rw[hheap] at h;simp at h
  unfold cellAt World.cell? at hc ⊢
  rw[World.putObj_heap_other hne];exact hc
 lim:=fun _ _=>ζK _
 free:=fun B' _ ho=>⟨World.putObj_heap_other fun e=>by subst e;rw[hown] at ho;simp at ho,ho,rfl⟩
 room:=fun B' cs e fz hc=>⟨cs,fz,by
  have hne:B'≠B:=fun e=>by subst e;rw[hheap] at hc;simp at hc
  rw[World.putObj_heap_other hne];exact hc,rfl,.inl rfl⟩
theorem Sim.putMap{G:Nat→Option (List V)}{γ:Gh}{st:St}{tmps:Array Value}{w:World}(h:Sim G γ st tmps w){b:Nat}{k:Blk}(hk:st.b b=some k){B clock clock':Nat}{es es':Array MapEntry}{rows':List (List V)}
  (hM:W9≤k.size) (hloc:γ.loc b=some (B,0)) (hown:γ.own B=some (.blk b)) (hheap:w.heap[B]?=some (.map es clock)) (hn:es'.size=rows'.length)
  (hz:∀r,r∈rows'→r.length=mwd k.size) (hes:EsOk k.size es'∧Born es' clock')
  (hc:∀(i:Nat) (c:V),rows'.flatten[i]?=some c→∃v,(es'.toList.flatMap (F1 k.size))[i]?=some v∧Rep γ w st.b st.u c v∧v.oneCell'=true) :
  Sim G γ (st.setB b ⟨k.size,k.excl,rows'⟩) tmps (w.putObj B (.map es' clock'))∧Grow γ w γ (w.putObj B (.map es' clock'))∧L1 γ st.b st.u γ (st.setB b ⟨k.size,k.excl,rows'⟩).b (st.setB b ⟨k.size,k.excl,rows'⟩).u:=by
 have g:Grow γ w γ (w.putObj B (.map es' clock')):=Grow.putMap hheap hown
 have hB:B < w.heap.size:=h.o B _ hown
 have bl:L1 γ st.b st.u γ (st.setB b ⟨k.size,k.excl,rows'⟩).b (st.setB b ⟨k.size,k.excl,rows'⟩).u:=by
  refine⟨fun b' hb=>by simp only[St.setB];split<;>simp_all,fun b' hb hn=>?_,fun b' k' hk'=>?_⟩
  ·have:b'≠b:=fun e=>by subst e;rw[hk] at hn;simp at hn
   simp only[St.setB];rw[if_neg this];exact hn
  ·by_cases hb:b'=b
   ·subst hb
    rw[hk] at hk';simp only[ζa] at hk';subst hk'
    exact⟨by simp[St.setB],.inr ⟨⟨k.size,k.excl,rows'⟩,by simp[St.setB],rfl,fun hs=>absurd hs (Nat.not_lt_of_le hM),rfl⟩⟩
   ·exact⟨by simp only[St.setB];rw[if_neg hb];exact h.u b' k' hk',.inr ⟨k',by simp only[St.setB];rw[if_neg hb];exact hk',rfl,fun _=>rfl,rfl⟩⟩
 refine⟨⟨h.n,fun i=>(h.t i).mono g bl,fun b' k' hk'=>?_,fun b' k' hk'=>?_,h.g.grow g,fun B' x hx=>by simpa using h.o B' x hx⟩,g,bl⟩
 ·simp only[St.setB] at hk'
  by_cases hb:b'=b
  ·subst hb
   rw[if_pos rfl] at hk'
   simp only[ζa] at hk';subst hk'
   refine .inr (.inl ⟨hM,B,es',clock',hloc,hown,World.putObj_heap_same hB,hn,hz,hes,fun i c hi=>?_⟩)
   obtain⟨v,h1,h2,h3⟩:=hc i c hi
   exact⟨v,h1,h2.mono g bl,h3⟩
  ·rw[if_neg hb] at hk'
   have hne:∀B2,γ.own B2=some (.blk b')→B2≠B:=fun B2 h2 e=>by subst e;rw[hown] at h2;simp only[ζa,H4.blk.injEq] at h2;exact hb h2.symm
   rcases h.b b' k' hk' with⟨v1,v2⟩|hm|⟨hM2,B2,o2,cs2,e2,h1,h2,h3,h4,h5,h6,h7,h8⟩
   ·exact .inl ⟨v1,v2⟩
   ·exact .inr (.inl (hm.same rfl (fun B2 _ hB2=>⟨hB2,World.putObj_heap_other (hne B2 hB2)⟩) fun c v hr=>hr.mono g bl))
   refine .inr (.inr ⟨hM2,B2,o2,cs2,e2,h1,h2,h3.of_eq (World.putObj_heap_other (hne B2 h2)),h4,h5,fun i c hc=>?_,h7,h8⟩)
   obtain⟨v,a1,a2,a3,a4⟩:=h6 i c hc
   exact⟨v,a1,a2.mono g bl,a3,a4.grow g⟩
 ·simp only[St.setB] at hk' ⊢
  by_cases hb:b'=b
  ·subst hb;simp
  ·rw[if_neg hb] at hk';rw[if_neg hb];exact h.u b' k' hk'
theorem mcells_len{z:Nat}{es:Array MapEntry}(h:EsOk z es){e:MapEntry}(he:e∈es):(F1 z e).length=mwd z:=by
 obtain⟨h1,_,h3,_⟩:=h e he
 simp[F1,h1,h3,mwd]
theorem flatMap_get{z:Nat}{es:Array MapEntry}(h:EsOk z es)(i j:Nat)(hj:j < mwd z):(es.toList.flatMap (F1 z))[i * mwd z+j]?=(es[i]?).bind fun e=>(F1 z e)[j]?:=by
 rw[List.flatMap_def]
 have gen:∀(rows:List (List Value)),(∀r,r∈rows→r.length=mwd z)→∀i,rows.flatten[i * mwd z+j]?=(rows[i]?).bind (·[j]?):=by
  intro rows
  induction rows with
  | nil=>intro _ i;simp
  | cons r rows ih=>
   intro hr i
   have hl:=hr r (by simp)
   cases i with
   | zero=>simp[ζl (show j < r.length by omega)]
   | succ i=>
    rw[List.flatten_cons,ζm (by rw[hl,ξp];omega),hl,show (i+1) * mwd z+j - mwd z=i * mwd z+j by rw[ξp];omega,ih (fun q hq=>hr q (by simp[hq])) i]
    simp
 rw[gen _ (fun r hr=>by obtain⟨e,he,rfl⟩:=ζt.1 hr;exact mcells_len h (by simpa using he))]
 rw[ζo,Array.getElem?_toList]
 cases es[i]?<;>rfl
theorem MapAt.row{γ:Gh}{w:World}{bs:Nat→Option Blk}{u:Nat→Bool}{z:Nat}{es:Array MapEntry}{rows:List (List V)}(hlen:es.size=rows.length)(hz:∀r,r∈rows→r.length=mwd z)(hes:EsOk z es)
  (hc:∀(i:Nat) (c:V),rows.flatten[i]?=some c→∃v,(es.toList.flatMap (F1 z))[i]?=some v∧Rep γ w bs u c v∧v.oneCell'=true) {i:Nat} {r:List V} (hr:rows[i]?=some r) :
  ∃e,es[i]?=some e∧Rep γ w bs u (E8 (mka z) (r.take (mkn z))) e.key∧Rep γ w bs u (E8 (mva z) (r.drop (mkn z))) e.val:=by
 have hi:i < es.size:=by rw[hlen];exact(ζe.1 hr).1
 have he:es[i]?=some es[i]:=ζg hi
 have hrl:=hz r (ζi hr)
 obtain⟨k1,k2,k3,k4⟩:=hes es[i] (Array.getElem_mem hi)
 have cell:∀(j:Nat) (c:V),r[j]?=some c→∃v,(F1 z es[i])[j]?=some v∧Rep γ w bs u c v:=fun j c hj=>by
  have hjl:j < mwd z:=by rw[←hrl];exact(ζe.1 hj).1
  obtain⟨v,v1,v2,_⟩:=hc (i * mwd z+j) c (by rw[J7 rows hz i j hjl,hr];exact hj)
  rw[flatMap_get hes i j hjl,he] at v1
  exact⟨v,v1,v2⟩
 have pack:∀(a:Bool) (l:List V) (v:Value),packW a (M0 a v)=v→(M0 a v).length=l.length→(∀(j:Nat) (c:V),l[j]?=some c→∃x,(M0 a v)[j]?=some x∧Rep γ w bs u c x)→Rep γ w bs u (E8 a l) v:=fun a l v hp hl hx=>by
  cases a with
  | true=>
   have hv:v=.agg (M0 true v).toArray:=hp.symm
   rw[hv]
   refine .agg l _ hl fun j c x hj hxj=>?_
   obtain⟨y,y1,y2⟩:=hx j c hj
   rw[y1] at hxj
   simp only[ζa] at hxj
   subst hxj;exact y2
  | false=>
   cases l with
   | nil=>simp[M0] at hl
   | cons c l=>
    obtain⟨y,y1,y2⟩:=hx 0 c rfl
    simp only[M0,ξo,ζa] at y1
    subst y1
    exact y2
 refine⟨es[i],he,pack _ _ _ k2 (by rw[k1,List.length_take,hrl];simp only[mwd];omega) (fun j c hj=>?_),pack _ _ _ k4 (by rw[k3,List.length_drop,hrl];simp only[mwd];omega) (fun j c hj=>?_)⟩
 ·rw[ζx] at hj
  split at hj
  ·rename_i hlt
   obtain⟨v,v1,v2⟩:=cell j c hj
   refine⟨v,?_,v2⟩
   rw[F1,ζl (by omega)] at v1
   exact v1
  ·simp at hj
 ·rw[ζy] at hj
  obtain⟨v,v1,v2⟩:=cell _ c hj
  refine⟨v,?_,v2⟩
  rw[F1,ζm (by omega),k1,Nat.add_sub_cancel_left] at v1
  exact v1
def K8{α β:Type}(l:List α)(p:α→Bool)(f:α→β)(z:β):β:=match l.findIdx? p with
 | some j=>match l[j]? with
  | some x=>f x
  | none=>z
 | none=>z
def mput{α:Type}(l:List α)(p:α→Bool)(y:α):List α:=match l.findIdx? p with
 | some j=>l.set j y
 | none=>l++[y]
theorem R8{α β γ:Type}(l:List α)(p:α→Bool)(f:α→β)(z:β)(g:β→γ):K8 l p (fun x=>g (f x)) (g z)=g (K8 l p f z):=by
 unfold K8
 cases l.findIdx? p with
 | none=>rfl
 | some j=>cases h:l[j]?<;>simp[h]
def zeroPack(P:Program)(t:TypeId):Option V:=match P.info? t with
 | some i=>match i.zero with
  | some (.agg a)=>(a.toList.mapM ofVal).map .agg
  | some v=>ofVal v
  | none=>none
 | none=>none
theorem run_zeroPack{P:Program}{γ:Gh}{w:World}{bs:Nat→Option Blk}{u:Nat→Bool}{t:TypeId}{c:V}(h:zeroPack P t=some c):∃v,(zeroValue t).run P w=.ok v w∧Rep γ w bs u c v:=by
 unfold zeroPack at h
 split at h
 ·rename_i i hi
  split at h
  ·rename_i a hz
   obtain⟨l,h1,rfl⟩:=ζb.1 h
   have:=mapM_ofVal (γ:=γ) (w:=w) (bs:=bs) (u:=u) h1
   refine⟨.agg a,by simp[zeroValue,typeInfo,hi,hz],?_⟩
   have e:(.agg a:Value)=.agg a.toList.toArray:=by simp
   rw[e]
   exact .agg l _ (by have:=this.1;simpa using this) fun j c v hc hv=>this.2 j c v hc (by simpa using hv)
  ·rename_i v _ hz
   exact⟨v,by simp[zeroValue,typeInfo,hi,hz],.data (ofVal_rep h)⟩
  ·simp at h
 ·simp at h
section
variable {P:Program} {G:Nat→Option (List V)}
def Rule.makeMap(t:TypeId)(d z:Nat)(hz:W9≤z):Rule P G Unit where
 op:=.makeMap t none
 dst:=some d
 vals:=[]
 blks:=[]
 o:=some ()
 ws:=fun _=>[.b d (some ⟨z,true,[]⟩),.t d (.mp d)]
 dt:=[]
 dat:=fun _ _ _ _ h=>by simp at h
 ok:=fun _ _ x st hop hdst _ _ hd=>H6 fun γ a w hs=>by
  obtain⟨h1,h2⟩:=hd d rfl
  have key:=hs.newMap hz h2
  refine⟨.map (some w.heap.size),w.alloc (.map #[] 0),γ.add d w.heap.size,by simp[execOp,hop,Instr.makeMap],key.2.1,key.2.2.pin,?_⟩
  have:=key.1.put (a:=a) (dst:=some d) (c:=.mp d) (v:=.map (some w.heap.size)) (by simpa[H2,St.setB] using h1) (.mp d w.heap.size ⟨z,true,[]⟩ (by simp[St.setB]) (by simp[Gh.add]) hz)
  rw[hdst]
  exact this
structure MapW(P:Program)(mt kt et:TypeId)(z:Nat){α:Type}(ty:Ty α)(p:α→Bool)(kc:List V):Prop where
 m:P.underlying mt=some (.map kt et)
 a:mka z=H0 P kt
 s:(P9 P kt kc kc).isSome=true
 q:∀x,P9 P kt kc ((ty.c x).take (mkn z))=some (p x)
theorem MapW.find{mt kt et:TypeId}{z:Nat}{α:Type}{ty:Ty α}{p:α→Bool}{kc:List V}(h:MapW P mt kt et z ty p kc){γ:Gh}{w:World}{bs:Nat→Option Blk}{u:Nat→Bool}{b:Nat}{excl:Bool}{l:List α}{kv:Value}{B:Nat}
  (hb:L2 γ w bs u b ⟨z,excl,l.map ty.c⟩) (hl:γ.loc b=some (B,0)) (hM:W9≤z) (hk:Rep γ w bs u (E8 (H0 P kt) kc) kv) :
  ∃es clock,w.heap[B]?=some (.map es clock)∧γ.own B=some (.blk b)∧(EsOk z es∧Born es clock)∧es.size=l.length∧(∀r,r∈l.map ty.c→r.length=mwd z)∧
   (∀(i:Nat) (c:V),(l.map ty.c).flatten[i]?=some c→∃v,(es.toList.flatMap (F1 z))[i]?=some v∧Rep γ w bs u c v∧v.oneCell'=true)∧
   (∀em,(Instr.checkKey em 10000 kt kv).run P w=.ok () w)∧
   (Instr.findKey kt kv es.toList).run P w=.ok (match l.findIdx? p with|some j=>(es[j]?).map fun e=>(j,e.val)|none=>none) w∧
   ∀(j:Nat) (x:α),l[j]?=some x→∃e,es[j]?=some e∧Rep γ w bs u (E8 (mka z) ((ty.c x).take (mkn z))) e.key∧Rep γ w bs u (E8 (mva z) ((ty.c x).drop (mkn z))) e.val:=by
 rcases hb with⟨h0,_⟩|⟨_,B',es,clock,h1,h2,h3,h4,h5,h6,h7⟩|hb
 ·rw[hl] at h0;simp at h0
 ·rw[hl] at h1;simp only[ζa,ζP,and_true] at h1
  subst h1
  have rows:∀(j:Nat) (x:α),l[j]?=some x→∃e,es[j]?=some e∧Rep γ w bs u (E8 (mka z) ((ty.c x).take (mkn z))) e.key∧Rep γ w bs u (E8 (mva z) ((ty.c x).drop (mkn z))) e.val:=fun j x hx=>
   MapAt.row h4 h5 h6.1 h7 (by rw[ζo,hx];rfl)
  have hsz:es.size=l.length:=by simpa using h4
  refine⟨es,clock,h3,h2,h6,hsz,h5,h7,fun em=>run_checkKeyV h.s hk em,?_,rows⟩
  rw[run_findKeyV hk es.toList (l.map p) (by simp[hsz]) (fun j e he=>?_) h.s,firstAt_idx p l es.toList 0 (by simpa using hsz)]
  ·cases l.findIdx? p<;>simp
  ·have hj:j < l.length:=by rw[←hsz];have:=(ζe.1 he).1;simpa using this
   have hx:l[j]?=some l[j]:=ζd hj
   obtain⟨e',e1,e2,_⟩:=rows j _ hx
   have:e'=e:=by
    rw[Array.getElem?_toList,e1] at he
    simpa using he
   subst this
   exact⟨p l[j],(ty.c l[j]).take (mkn z),by rw[ζo,hx];rfl,h.q _,by rw[←h.a];exact e2⟩
 ·exact absurd hb.1 (Nat.not_lt_of_le hM)
theorem run_look{mt kt et:TypeId}{z:Nat}{α:Type}{ty:Ty α}{p:α→Bool}{kc:List V}(h:MapW P mt kt et z ty p kc){γ:Gh}{w:World}{bs:Nat→Option Blk}{u:Nat→Bool}{b:Nat}{excl:Bool}{l:List α}{kv mv:Value}{zv:V}
  (hb:∀b k,bs b=some k→L2 γ w bs u b k) (hbb:bs b=some ⟨z,excl,l.map ty.c⟩) (hm:Rep γ w bs u (.mp b) mv) (hk:Rep γ w bs u (E8 (H0 P kt) kc) kv) (hz:zeroPack P et=some zv) (ok:Bool) :
  ∃v,(Instr.lookup mt mv kv ok).run P w=.ok v w∧Rep γ w bs u (bif ok then .tup [K8 l p (fun x=>E8 (mva z) ((ty.c x).drop (mkn z))) zv,.bool (l.findIdx? p).isSome] else K8 l p (fun x=>E8 (mva z) ((ty.c x).drop (mkn z))) zv) v:=by
 obtain⟨B,rfl,hl,hM⟩:=hm.mp_inv hbb
 obtain⟨es,clock,h1,h2,h3,h4,h5,h6,h7,h8,h9⟩:=h.find (hb b _ hbb) hl hM hk
 obtain⟨zval,z1,z2⟩:=run_zeroPack (P:=P) (γ:=γ) (w:=w) (bs:=bs) (u:=u) hz
 have key:∃(v:Value),(Instr.lookup mt (.map (some B)) kv ok).run P w=.ok (if ok=true then .tuple #[v,.bool (l.findIdx? p).isSome] else v) w∧Rep γ w bs u (K8 l p (fun x=>E8 (mva z) ((ty.c x).drop (mkn z))) zv) v:=by
  unfold K8
  cases hf:l.findIdx? p with
  | none=>
   rw[hf] at h8
   refine⟨zval,?_,z2⟩
   simp only[Instr.lookup,ζT,ζO h.m,ζQ,MapKept.run_getObj_map h1,ζU,h7,h8,z1,Option.isSome_none]
  | some j=>
   rw[hf] at h8
   have hj:j < l.length:=(List.findIdx?_eq_some_iff_getElem.1 hf).1
   have hx:l[j]?=some l[j]:=ζd hj
   obtain⟨e,e1,_,e3⟩:=h9 j _ hx
   simp only[e1,ζZ] at h8
   refine⟨e.val,?_,?_⟩
   ·simp only[Instr.lookup,ζT,ζO h.m,ζQ,MapKept.run_getObj_map h1,ζU,h7,h8,Option.isSome_some]
   ·show Rep γ w bs u (match l[j]? with|some x=>E8 (mva z) ((ty.c x).drop (mkn z))|none=>zv) _
    simp only[hx];exact e3
 obtain⟨v,k2,k3⟩:=key
 cases ok with
 | false=>exact⟨v,by simpa using k2,k3⟩
 | true=>
  refine⟨.tuple #[v,.bool (l.findIdx? p).isSome],by simpa using k2,?_⟩
  exact .tup _ [v,.bool (l.findIdx? p).isSome] rfl fun i c x hc hx=>by
   match i,hc,hx with
   | 0,hc,hx=>simp at hc hx;subst hc;subst hx;exact k3
   | 1,hc,hx=>simp at hc hx;subst hc;subst hx;exact .data (.bool _)
   | n+2,hc,hx=>simp at hc
def Rule.look{α:Type}{mt kt et:TypeId}{z:Nat}{ty:Ty α}{p:α→Bool}{kc:List V}(om oi:Operand)(d b:Nat)(excl:Bool)(l:List α)(zv res:V)(h:MapW P mt kt et z ty p kc)(hz:zeroPack P et=some zv)
  (hr:K8 l p (fun x=>E8 (mva z) ((ty.c x).drop (mkn z))) zv=res):Rule P G Unit where
 op:=.lookup mt om oi false
 dst:=some d
 vals:=[(om,.mp b),(oi,E8 (H0 P kt) kc)]
 blks:=[(b,⟨z,excl,l.map ty.c⟩)]
 o:=some ()
 ws:=fun _=>[.t d res]
 dt:=[]
 dat:=fun _ _ _ _ h=>by simp at h
 ok:=fun _ _ x st hop hdst hv hb hd=>by
  obtain⟨h1,_⟩:=hd d rfl
  have:=X9 (P:=P) (G:=G) (o:=x) (st:=st) (c:=res) (by rw[hdst];simpa[H2] using h1) fun γ a w hs=>by
   obtain⟨v,r1,r2⟩:=run_look h hs.b (hb (b,⟨z,excl,l.map ty.c⟩) (by simp)) (hv (om,.mp b) (by simp) γ a w hs) (hv (oi,E8 (H0 P kt) kc) (by simp) γ a w hs) hz false
   rw[cond_false,hr] at r2
   exact⟨v,by simp[execOp,hop,r1],r2⟩
  rw[hdst] at this
  exact this
def Rule.look2{α:Type}{mt kt et:TypeId}{z:Nat}{ty:Ty α}{p:α→Bool}{kc:List V}(om oi:Operand)(d b:Nat)(excl:Bool)(l:List α)(zv res:V)(h:MapW P mt kt et z ty p kc)(hz:zeroPack P et=some zv)
  (hr:K8 l p (fun x=>E8 (mva z) ((ty.c x).drop (mkn z))) zv=res):Rule P G Unit where
 op:=.lookup mt om oi true
 dst:=some d
 vals:=[(om,.mp b),(oi,E8 (H0 P kt) kc)]
 blks:=[(b,⟨z,excl,l.map ty.c⟩)]
 o:=some ()
 ws:=fun _=>[.t d (.tup [res,.bool (l.findIdx? p).isSome])]
 dt:=[]
 dat:=fun _ _ _ _ h=>by simp at h
 ok:=fun _ _ x st hop hdst hv hb hd=>by
  obtain⟨h1,_⟩:=hd d rfl
  have:=X9 (P:=P) (G:=G) (o:=x) (st:=st) (c:=.tup [res,.bool (l.findIdx? p).isSome]) (by rw[hdst];simpa[H2] using h1) fun γ a w hs=>by
   obtain⟨v,r1,r2⟩:=run_look h hs.b (hb (b,⟨z,excl,l.map ty.c⟩) (by simp)) (hv (om,.mp b) (by simp) γ a w hs) (hv (oi,E8 (H0 P kt) kc) (by simp) γ a w hs) hz true
   rw[cond_true,hr] at r2
   exact⟨v,by simp[execOp,hop,r1],r2⟩
  rw[hdst] at this
  exact this
theorem eqFlat_true:∀{xs ys:List V},U4 xs ys=some true→xs=ys∧∀{γ:Gh} {w:World} {bs:Nat→Option Blk} {u:Nat→Bool} (i:Nat) (c:V),xs[i]?=some c→∃v,(∀x,Rep γ w bs u c x→x=v)∧Instr.sameBits 9999 v v=true
 | [],[],_=>⟨rfl,fun i c h=>by simp at h⟩
 | [],y :: ys,h=>by simp[U4] at h
 | x :: xs,[],h=>by cases x<;>simp[U4] at h
 | x :: xs,y :: ys,h=>by
  cases x<;>cases y<;>simp only[U4] at h<;>try (simp at h;done)
  case int.int k a k' b=>
   split at h
   ·rename_i hk
    subst hk
    obtain⟨r,h1,h2⟩:=ζb.1 h
    simp only[ζA,beq_iff_eq] at h2
    obtain⟨rfl,rfl⟩:=h2
    obtain⟨rfl,ih⟩:=eqFlat_true h1
    refine⟨rfl,fun i c hc=>?_⟩
    cases i with
    | zero=>
     simp only[ξo,ζa] at hc
     subst hc
     exact⟨_,fun x hx=>hx.int_inv,by simp[Instr.sameBits]⟩
    | succ i=>exact ih i c (by simpa using hc)
   ·simp at h
  case str.str a b=>
   obtain⟨r,h1,h2⟩:=ζb.1 h
   simp only[ζA,ζF] at h2
   obtain⟨rfl,rfl⟩:=h2
   obtain⟨rfl,ih⟩:=eqFlat_true h1
   refine⟨rfl,fun i c hc=>?_⟩
   cases i with
   | zero=>
    simp only[ξo,ζa] at hc
    subst hc
    exact⟨_,fun x hx=>hx.str_inv,by simp[Instr.sameBits,MapKept.bytes_beq]⟩
   | succ i=>exact ih i c (by simpa using hc)
  case bool.bool a b=>
   obtain⟨r,h1,h2⟩:=ζb.1 h
   simp only[ζA,beq_iff_eq] at h2
   obtain⟨rfl,rfl⟩:=h2
   obtain⟨rfl,ih⟩:=eqFlat_true h1
   refine⟨rfl,fun i c hc=>?_⟩
   cases i with
   | zero=>
    simp only[ξo,ζa] at hc
    subst hc
    exact⟨_,fun x hx=>hx.bool_inv,by simp[Instr.sameBits]⟩
   | succ i=>exact ih i c (by simpa using hc)
theorem keyEq_same{t:TypeId}{xs ys:List V}(h:P9 P t xs ys=some true){γ:Gh}{w:World}{bs:Nat→Option Blk}{u:Nat→Bool}{k k':Value}(hk:Rep γ w bs u (E8 (H0 P t) xs) k)
  (hk':Rep γ w bs u (E8 (H0 P t) ys) k'):k'=k∧(Instr.keyThatStays k' k).run P w=.ok k w:=by
 have fin:k'=k→Instr.sameBits 10000 k k=true→k'=k∧(Instr.keyThatStays k' k).run P w=.ok k w:=fun e hs=>by
  subst e
  exact⟨rfl,by simp[Instr.keyThatStays,hs]⟩
 rcases keyEq_kind h with⟨q,hu⟩|hu|ha
 ·have ha:H0 P t=false:=by simp[H0,hu]
  rw[ha] at hk hk'
  obtain⟨k1,a,b,rfl,rfl,e⟩:=keyEq_int hu h
  have e:a=b:=by simpa using e.symm
  subst e
  have h1:=Rep.int_inv (hk:Rep γ w bs u (.int k1 a) k)
  have h2:=Rep.int_inv (hk':Rep γ w bs u (.int k1 a) k')
  exact fin (h2.trans h1.symm) (by rw[h1];simp[Instr.sameBits])
 ·have ha:H0 P t=false:=by simp[H0,hu]
  rw[ha] at hk hk'
  obtain⟨a,b,rfl,rfl,e⟩:=keyEq_str hu h
  have e:a=b:=by simpa using e.symm
  subst e
  have h1:=Rep.str_inv (hk:Rep γ w bs u (.str a) k)
  have h2:=Rep.str_inv (hk':Rep γ w bs u (.str a) k')
  exact fin (h2.trans h1.symm) (by rw[h1];simp[Instr.sameBits,MapKept.bytes_beq])
 ·rw[ha] at hk hk'
  replace h:=keyEq_flat ha h
  obtain⟨rfl,cells⟩:=eqFlat_true h
  obtain⟨v1,rfl,l1,c1⟩:=(hk:Rep γ w bs u (.agg xs) k).agg_inv
  obtain⟨v2,rfl,l2,c2⟩:=(hk':Rep γ w bs u (.agg xs) k').agg_inv
  have e:v2=v1:=by
   refine List.ext_getElem (by omega) fun i h1 h2=>?_
   have hx:xs[i]?=some (xs[i]'(by omega)):=ζd (by omega)
   obtain⟨v,u1,_⟩:=cells (γ:=γ) (w:=w) (bs:=bs) (u:=u) i _ hx
   rw[u1 _ (c2 i _ _ hx (ζd h1)),u1 _ (c1 i _ _ hx (ζd h2))]
  subst e
  refine fin rfl ?_
  show Instr.sameBits (9999+1) _ _=true
  simp only[Instr.sameBits,beq_self_eq_true,Bool.true_and,ζE]
  intro q hq
  obtain⟨i,hi,e⟩:=List.getElem_of_mem hq
  rw[List.getElem_zip] at e
  rw[←e]
  simp only[List.length_zip,Nat.min_self] at hi
  have hx:xs[i]?=some (xs[i]'(by omega)):=ζd (by omega)
  obtain⟨v,u1,u2⟩:=cells (γ:=γ) (w:=w) (bs:=bs) (u:=u) i _ hx
  have:=u1 _ (c1 i _ _ hx (ζd hi))
  simp only[this]
  exact u2
theorem dcell_isCell{c:V}(h:U5 c=true):c.isCell=true:=by cases c<;>simp_all [U5,V.isCell]
theorem unpack_rep{γ:Gh}{w:World}{bs:Nat→Option Blk}{u:Nat→Bool}{a:Bool}{l:List V}{v:Value}(h:Rep γ w bs u (E8 a l) v)(h1:a=false→l.length=1) :
  (M0 a v).length=l.length∧packW a (M0 a v)=v∧∀(j:Nat) (c:V),l[j]?=some c→∃x,(M0 a v)[j]?=some x∧Rep γ w bs u c x:=by
 cases a with
 | true=>
  obtain⟨vs,rfl,e1,e2⟩:=(h:Rep γ w bs u (.agg l) v).agg_inv
  refine⟨by simpa[M0] using e1,by simp[packW,M0],fun j c hj=>?_⟩
  have hlt:j < vs.length:=by rw[e1];exact(ζe.1 hj).1
  have hx:vs[j]?=some vs[j]:=ζd hlt
  exact⟨vs[j],by simp[M0],e2 j c _ hj hx⟩
 | false=>
  have:=h1 rfl
  match l,this,h with
  | [c],_,h=>
   refine⟨rfl,rfl,fun j c' hj=>?_⟩
   cases j with
   | zero=>simp at hj;subst hj;exact⟨v,rfl,h⟩
   | succ j=>simp at hj
theorem rows_cells{z:Nat}{es:Array MapEntry}{rows:List (List V)}{R:V→Value→Prop}(hes:EsOk z es)(hlen:es.size=rows.length)(hz:∀r,r∈rows→r.length=mwd z) :
  (∀(i:Nat) (c:V),rows.flatten[i]?=some c→∃v,(es.toList.flatMap (F1 z))[i]?=some v∧R c v)↔
   ∀(q:Nat) (r:List V) (e:MapEntry),rows[q]?=some r→es[q]?=some e→∀(j:Nat) (c:V),r[j]?=some c→∃v,(F1 z e)[j]?=some v∧R c v:=by
 constructor
 ·intro h q r e hr he j c hj
  have hjl:j < mwd z:=by rw[←hz r (ζi hr)];exact(ζe.1 hj).1
  obtain⟨v,v1,v2⟩:=h (q * mwd z+j) c (by rw[J7 rows hz q j hjl,hr];exact hj)
  rw[flatMap_get hes q j hjl,he] at v1
  exact⟨v,v1,v2⟩
 ·intro h i c hc
  have hpos:0 < mwd z:=by
   rcases ξq (mwd z) with h0|h0
   ·have:rows.flatten=[]:=by
     rw[List.flatten_eq_nil_iff]
     intro r hr
     exact ζS.1 ((hz r hr).trans h0)
    rw[this] at hc;simp at hc
   ·exact h0
  have e:i=(i / mwd z) * mwd z+i % mwd z:=by rw[ξw];exact(Nat.div_add_mod i (mwd z)).symm
  have hm:=Nat.mod_lt i hpos
  rw[e,J7 rows hz _ _ hm] at hc
  obtain⟨r,hr,hc⟩:=ζc.1 hc
  have hq:i / mwd z < es.size:=by rw[hlen];exact(ζe.1 hr).1
  have he:es[i / mwd z]?=some es[i / mwd z]:=ζg hq
  obtain⟨v,v1,v2⟩:=h _ r _ hr he _ c hc
  refine⟨v,?_,v2⟩
  rw[e,flatMap_get hes _ _ hm,he]
  exact v1
def Rule.put{α:Type}{mt kt et:TypeId}{z:Nat}{ty:Ty α}{p:α→Bool}{kc:List V}(om oi ov:Operand)(b:Nat)(l:List α)(y:α)(vc:List V)(h:MapW P mt kt et z ty p kc)
    (hy:ty.c y=kc++vc) (hk:kc.length=mkn z) (hv:vc.length=mvn z) (hk1:mka z=false→mkn z=1) (hv1:mva z=false→mvn z=1):Rule P G Unit where
  op:=.mapUpdate mt om oi ov
  dst:=none
  vals:=[(om,.mp b),(oi,E8 (H0 P kt) kc),(ov,E8 (mva z) vc)]
  blks:=[(b,⟨z,true,l.map ty.c⟩)]
  o:=some ()
  ws:=fun _=>[.b b (some ⟨z,true,(mput l p y).map ty.c⟩)]
  dt:=[b]
  dat:=fun _ i k hm _=>by
    simp only[ζu,Wr.b.injEq,ζa] at hm
    obtain⟨_,rfl⟩:=hm
    exact ty.data _
  ok:=fun _ _ x st hop hdst hvs hb _=>effO_skip fun γ a w hs=>by
    have hbb:=hb (b,⟨z,true,l.map ty.c⟩) (by simp)
    have rm:=hvs (om,.mp b) (by simp) γ a w hs
    have rk:=hvs (oi,E8 (H0 P kt) kc) (by simp) γ a w hs
    have rv:=hvs (ov,E8 (mva z) vc) (by simp) γ a w hs
    obtain⟨B,hB,hl,hM⟩:=rm.mp_inv hbb
    obtain⟨es,clock,h1,h2,h3,h4,h5,h6,h7,h8,h9⟩:=h.find (hs.b b _ hbb) hl hM rk
    rw[←h.a] at rk
    obtain⟨u1,u2,u3⟩:=unpack_rep rk (fun e=>by rw[hk];exact hk1 e)
    obtain⟨t1,t2,t3⟩:=unpack_rep rv (fun e=>by rw[hv];exact hv1 e)
    have hold:=(rows_cells h3.1 (by rw[h4];simp) h5).1 h6
    have newOk:∀e:MapEntry,e.key=a.eval oi→e.val=a.eval ov→(M0 (mka z) e.key).length=mkn z∧packW (mka z) (M0 (mka z) e.key)=e.key∧(M0 (mva z) e.val).length=mvn z∧packW (mva z) (M0 (mva z) e.val)=e.val:=fun e e1 e2=>by
      rw[e1,e2];exact⟨u1.trans hk,u2,t1.trans hv,t2⟩
    have newCells:∀e:MapEntry,e.key=a.eval oi→e.val=a.eval ov→∀(j:Nat) (c:V),(ty.c y)[j]?=some c→∃v,(F1 z e)[j]?=some v∧Rep γ w st.b st.u c v∧v.oneCell'=true:=fun e e1 e2 j c hj=>by
      have hcell:=dcell_isCell (ζE.1 (ty.cd y) c (ζi hj))
      rw[hy] at hj
      have:∃v,(F1 z e)[j]?=some v∧Rep γ w st.b st.u c v:=by
        unfold F1
        rw[e1,e2]
        by_cases hlt:j < kc.length
        · rw[ζl hlt] at hj
          obtain⟨v,v1,v2⟩:=u3 j c hj
          exact⟨v,by rw[ζl (by rw[u1];exact hlt)];exact v1,v2⟩
        · rw[ζm (by omega)] at hj
          obtain⟨v,v1,v2⟩:=t3 _ c hj
          exact⟨v,by rw[ζm (by rw[u1];omega),u1];exact v1,v2⟩
      obtain⟨v,v1,v2⟩:=this
      exact⟨v,v1,v2,v2.isCell_one hcell⟩
    have hyl:(ty.c y).length=mwd z:=by rw[hy,ζn,hk,hv];rfl
    have fin:∀(es':Array MapEntry) (clock':Nat),es'.size=(mput l p y).length→(EsOk z es'∧Born es' clock')→(∀(q:Nat) (x':α) (e:MapEntry),(mput l p y)[q]?=some x'→es'[q]?=some e→(x'=y∧e.key=a.eval oi∧e.val=a.eval ov)∨(l[q]?=some x'∧es[q]?=some e))→
        (Instr.mapUpdate mt (a.eval om) (a.eval oi) (a.eval ov)).run P w=.ok () (w.putObj B (.map es' clock'))→
        ∃w' γ',(execOp a.eval x).run P w=.ok .skip w'∧Grow γ w γ' w'∧Pin γ st.b st.u γ' (st.app [.b b (some ⟨z,true,(mput l p y).map ty.c⟩)]).b (st.app [.b b (some ⟨z,true,(mput l p y).map ty.c⟩)]).u∧
          Sim G γ' (st.app [.b b (some ⟨z,true,(mput l p y).map ty.c⟩)]) (a.put x.dst undef).tmps w':=fun es' clock' g1 g2 g3 g4=>by
      have hz':∀r,r∈(mput l p y).map ty.c→r.length=mwd z:=fun r hr=>by
        obtain⟨x',hx',rfl⟩:=ζt.1 hr
        obtain⟨q,hq⟩:=ζh.1 hx'
        have hqs:q < es'.size:=by rw[g1];exact(ζe.1 hq).1
        rcases g3 q x' _ hq (ζg hqs) with⟨e1,_⟩|⟨e1,_⟩
        · rw[e1];exact hyl
        · exact h5 _ (ζt.2 ⟨x',ζi e1,rfl⟩)
      have key:=hs.putMap (clock':=clock') (es':=es') (rows':=(mput l p y).map ty.c) hbb hM hl h2 h1 (by rw[g1];simp) hz' g2 ((rows_cells g2.1 (by rw[g1];simp) hz').2 fun q r e hr he j c hj=>by
        rw[ζo,ζb] at hr
        obtain⟨x',hx',rfl⟩:=hr
        rcases g3 q x' e hx' he with⟨rfl,e2,e3⟩|⟨e1,e2⟩
        · exact newCells e e2 e3 j c hj
        · exact hold q (ty.c x') e (by rw[ζo,e1];rfl) e2 j c hj)
      refine⟨w.putObj B (.map es' clock'),γ,by simp[execOp,hop,g4],key.2.1,key.2.2.pin,?_⟩
      rw[hdst]
      exact key.1
    cases hf:l.findIdx? p with
    | none=>
      have hm:mput l p y=l++[y]:=by unfold mput;rw[hf]
      refine fin (es.push { key:=a.eval oi,val:=a.eval ov,born:=clock }) (clock+1) (by rw[hm];simp[h4]) ⟨fun e he=>?_,by
          refine⟨?_,fun e he=>?_⟩
          · simp only[Array.toList_push,ζp,ξf,List.map_nil]
            refine List.nodup_append.2 ⟨h3.2.1,by simp,fun x hx y hy e=>?_⟩
            obtain⟨e0,he0,rfl⟩:=ζt.1 hx
            simp only[ζu] at hy
            have:=h3.2.2 e0 he0
            omega
          · simp only[Array.toList_push,ζr,ζu] at he
            rcases he with he|rfl
            · exact Nat.lt_succ_of_lt (h3.2.2 e he)
            · exact Nat.lt_succ_self clock⟩ (fun q x' e hq he=>?_) ?_
      · rcases Array.mem_push.1 he with he|rfl
        · exact h3.1 e he
        · exact newOk _ rfl rfl
      · rw[hm] at hq
        by_cases hlt:q < l.length
        · rw[ζl hlt] at hq
          rw[Array.getElem?_push,if_neg (by omega)] at he
          exact .inr ⟨hq,he⟩
        · have hq1:q < (l++[y]).length:=(ζe.1 hq).1
          have hql:q=l.length:=by simp at hq1;omega
          subst hql
          simp at hq
          rw[Array.getElem?_push,if_pos (by omega)] at he
          simp only[ζa] at he
          exact .inl ⟨hq.symm,by rw[←he],by rw[←he]⟩
      · rw[hf] at h8
        rw[hB]
        simp only[Instr.mapUpdate,ζT,ζO h.m,ζQ,MapKept.run_getObj_map h1,h7,h8]
        exact MapKept.run_setObj_map _ h1
    | some j=>
      have hm:mput l p y=l.set j y:=by unfold mput;rw[hf]
      obtain⟨hj,hpj,_⟩:=List.findIdx?_eq_some_iff_getElem.1 hf
      have hx:l[j]?=some l[j]:=ζd hj
      obtain⟨e,e1,e2,e3⟩:=h9 j _ hx
      obtain⟨k1,k2⟩:=keyEq_same (P:=P) (t:=kt) (by rw[h.q,hpj]) (hvs (oi,E8 (H0 P kt) kc) (by simp) γ a w hs) (by rw[←h.a];exact e2)
      refine fin (es.modify j fun e=>{ e with key:=a.eval oi,val:=a.eval ov }) clock (by rw[hm];simp[h4]) ⟨fun e' he=>?_,by
          have hb:(es.modify j fun e=>{ e with key:=a.eval oi,val:=a.eval ov }).toList.map (·.born)=es.toList.map (·.born):=by
            refine List.ext_getElem? fun q=>?_
            rw[ζo,ζo,Array.getElem?_toList,Array.getElem?_toList,Array.getElem?_modify]
            split
            · cases es[q]?<;>rfl
            · rfl
          refine⟨by rw[hb];exact h3.2.1,fun e' he'=>?_⟩
          have hm':e'.born∈es.toList.map (·.born):=by rw[←hb];exact ζt.2 ⟨e',he',rfl⟩
          obtain⟨e0,he0,e1⟩:=ζt.1 hm'
          rw[←e1];exact h3.2.2 e0 he0⟩ (fun q x' e' hq he=>?_) ?_
      · obtain⟨q,hq,rfl⟩:=Array.mem_iff_getElem.1 he
        rw[Array.getElem_modify]
        split
        · exact newOk _ rfl rfl
        · exact h3.1 _ (Array.getElem_mem _)
      · rw[hm] at hq
        rw[Array.getElem?_modify] at he
        by_cases hqj:j=q
        · subst hqj
          rw[ζj hj] at hq
          simp only[if_pos,e1,ζZ,ζa] at he hq
          exact .inl ⟨hq.symm,by rw[←he],by rw[←he]⟩
        · rw[ζk hqj] at hq
          rw[if_neg hqj] at he
          exact .inr ⟨hq,he⟩
      · rw[hf] at h8
        simp only[e1,ζZ] at h8
        rw[hB]
        simp only[Instr.mapUpdate,ζT,ζO h.m,ζQ,MapKept.run_getObj_map h1,h7,h8,e1,ζZ,Option.getD_some,k2]
        exact MapKept.run_setObj_map _ h1
end
end Go.EV
