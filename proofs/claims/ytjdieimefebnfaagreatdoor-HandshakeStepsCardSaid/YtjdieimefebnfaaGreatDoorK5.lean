/- Guided execution: the executor is right: if what is found is what the guide says, the function's body comes to what the guide is worth; no conditions ..; no conditions. -/
import Derived.Test.YtjdieimefebnfaaGreatDoorK4
import Derived.Test.YtjdieimefebnfaaGreatDoorK2
import Derived.RangeFuncRecord
import Derived.RangeFuncNested
import Derived.MapKept
import Derived.Test.YtjdieimefebnfaaGreatDoorK1
import Derived.KernelRfl
set_option linter.unusedVariables false
set_option linter.unusedSimpArgs false
namespace Go.EV
open Go
section
variable {P:Program} {G:ze}
def Rel(_P:Program)(G:ze)(Q:Exit->St->Prop)(e:Exit)(st:St):Prop:=
 ∀(fx:Fx) (γ:Gh) (a:Act) (w:World),Qs G γ st a.tmps w->a.defers=fx.ds->L0 G fx γ st w Q e a w
theorem Rel.of{Q:Exit->St->Prop}{e:Exit}{st:St}(h:Q e st):Rel P G Q e st:=λ_ γ _ w hs hd=>⟨st,γ,hs,⟨.refl γ w,.refl hs.u⟩,.of hd,h⟩
theorem Rel.mono{Q Q':Exit->St->Prop}{e e':Exit}{st:St}(h:Rel P G Q e st)(hq:∀s,Q e s->Q' e' s):Rel P G Q' e' st:=λfx γ a w hs hd=>by
 obtain⟨st',γ',h1,h2,h3,h4⟩:=h fx γ a w hs hd
 exact⟨st',γ',h1,h2,h3,hq _ h4⟩
theorem Rel.forget{Q:Exit->St->Prop}{e:Exit}{st st':St}(f:F9 st st')(h:Rel P G Q e st'):Rel P G Q e st:=λfx γ a w hs hd=>
 (h fx γ a w (f.Gq hs) hd).grow ⟨.refl γ w,f.JH hs⟩
theorem Rel.ghost{Q:Exit->St->Prop}{e:Exit}{st st':St}(g:QH G st st')(h:Rel P G Q e st'):Rel P G Q e st:=λfx γ a w hs hd=>by
 obtain⟨γ',h1,h2,h3⟩:=g γ a.tmps w hs
 exact(h fx γ' a w h1 hd).grow ⟨h2,h3⟩
theorem TV.rel{c:Code}{st:St}{Q Q':Exit->St->Prop}(h:TV P G c st Q')(hq:∀e s,Q' e s->Rel P G Q e s):TV P G c st Q:=λfx γ a w hs hd=>
 wpIn_mono (h fx γ a w hs hd) λe a' w' hl=>by
  obtain⟨st',γ',h1,h2,h3,h4⟩:=hl
  exact(hq e st' h4 ⟨fx.ro,a'.defers,fx.mx⟩ γ' a' w' h1 rfl).Ow h2 h3
theorem TV.Qqs{st:St}{Q:Exit->St->Prop}(h:Rel P G Q .normal st):TV P G .skip st Q:=λfx γ a w hs hd=>wpIn_skip (h fx γ a w hs hd.1)
theorem TV.cU{l:Nat}{st:St}{Q:Exit->St->Prop}(h:Rel P G Q .normal st):TV P G (.label l) st Q:=λfx γ a w hs hd=>wpIn_label (h fx γ a w hs hd.1)
theorem TV.Qh8{id:Nat}{st:St}{Q:Exit->St->Prop}(h:Rel P G Q (.exit id) st):TV P G (.exit id) st Q:=λfx γ a w hs hd=>wpIn_exit (h fx γ a w hs hd.1)
theorem TV.Qky{st:St}{Q:Exit->St->Prop}(h:Rel P G Q .ret st):TV P G .ret st Q:=λfx γ a w hs hd=>wpIn_ret (h fx γ a w hs hd.1)
def NL(P:Program)(G:ze)(c:Code)(st:St)(Q:Exit->St->Prop):Prop:=
 ∀(fx:Fx) (γ:Gh) (a:Act) (w:World),Qs G γ st a.tmps w->Uu fx γ a.defers w->Fb fx.ro P c (L0 G fx γ st w Q) a w
theorem TV.lX{c:Code}{st:St}{Q:Exit->St->Prop}(h:TV P G c st (EO (λs=>NL P G c s Q) Q)):∀(fx:Fx) (γ:Gh) (a:Act) (w:World),Qs G γ st a.tmps w->Uu fx γ a.defers w->CW fx.ro P c (Exit.then (Fb fx.ro P c (L0 G fx γ st w Q)) (L0 G fx γ st w Q)) a w:=λfx γ a w hs hd=>
 wpIn_mono (h fx γ a w hs hd) λe a' w' hl=>by
  obtain⟨st',γ',h1,h2,h3,h4⟩:=hl
  cases e with
  | normal=>exact Tx (h4 ⟨fx.ro,a'.defers,fx.mx⟩ γ' a' w' h1 (hd.step h2.1)) λ_ _ _ hl=>hl.Ow h2 h3
  | _=>exact⟨st',γ',h1,h2,h3,h4⟩
theorem TV.Aa{c:Code}{st:St}{Q:Exit->St->Prop}(h:TV P G c st (EO (λs=>NL P G c s Q) Q)):TV P G (.loop c) st Q:=λfx γ a w hs hd=>MW (TV.lX h fx γ a w hs hd)
theorem NL.once{c:Code}{st:St}{Q:Exit->St->Prop}(h:TV P G c st (EO (λs=>NL P G c s Q) Q)):NL P G c st Q:=λfx γ a w hs hd=>Oa (TV.lX h fx γ a w hs hd)
def noGoto(Q:Exit->St->Prop):Exit->St->Prop
 | .goto _,_=>False
 | e,st=>Q e st
def Qx(P:Program)(G:ze)(Q:Exit->St->Prop):List Kf->Exit->St->Prop
 | []=>Q
 | .seq y :: K=>EO (λst=>TV P G y st (Qx P G Q K)) (Qx P G Q K)
 | .block id :: K=>V5 id (Qx P G Q K)
 | .scope :: K=>noGoto (Qx P G Q K)
 | .lp c :: K=>EO (λst=>NL P G c st (Qx P G Q K)) (Qx P G Q K)
def N8(P:Program){ρ:Type}(F:Yw ρ)(r:ρ)(n:Nat):Exit->St->Prop:=
 match F with
 | .fn rs res outs=>λe s=>∃v0,D8 8 (res r) v0=res r/\NP P rs v0 (Qe (outs r)) e s
 | .LW E=>Ur (E r) n
 | .reg _ _=>λ_ _=>False
 | .VP S E=>match r with
  | .inl y=>λe s=>A8 e=true/\Ur (S y) n e s
  | .inr z=>λe s=>A8 e=false/\Ur (E z) n e s
 | .iX rs res outs ex Zu=>match r with
  | .inl r=>λe s=>∃v0,D8 8 (res r) v0=res r/\NP P rs v0 (Qe (outs r)) e s
  | .inr z=>λe s=>e=ex z/\∀b k,Qe (Zu z) b=some k->s.b b=some k
def AN(P:Program)(G:ze)(Q:Exit->St->Prop)(cur:Code⊕Exit)(K:List Kf)(st:St):Prop:=
 match cur with
 | .inl c=>TV P G c st (Qx P G Q K)
 | .inr e=>Rel P G (Qx P G Q K) e st
def BH(rec:Rec P G):Prop:=
 ∀(ρ:Type) (F:Yw ρ) (g:T P G ρ) (cur:Code⊕Exit) (K:List Kf) (d:D) (r:ρ),d.Ok->rec ρ F g cur K d=g.expect F->g.run=some r->AN P G (N8 P F r d.n) cur K d.st
section
variable {kp:List Nat} {rec:Rec P G} (hm:P.follows .mixedOrders=true) (hrec:BH rec) {ρ:Type} {F:Yw ρ} {g:T P G ρ} {K:List Kf} {d:D} {r:ρ}
theorem HA{e:Exit}{x:Ext}(h:Av e x d=HI x.ex x):Ur x d.n e d.st:=by
 simp only[Av,HI,C.fin.injEq,true_and,zy] at h
 exact⟨h.1,rfl,h.2.1,h.2.2⟩
theorem uY{e:Exit}(h:fin P G F g e d=g.expect F)(hr:g.run=some r):N8 P F r d.n e d.st:=by
 cases g<;>simp only[fin] at h<;>try exact absurd h (Z6 _ _ _)
 case done r'=>
  simp only[T.run,zy] at hr
  subst hr
  cases F with
  | fn rs res outs=>
   have key:(e=.normal\/e=.ret)->C.fin ((L2 P d.st rs).map (D8 8 (res r'))) none [] ((outs r').map λp=>(p.1,d.st.b p.1))=T.expect (Yw.fn rs res outs) (T.done (P:=P) (G:=G) r')->N8 P (Yw.fn rs res outs) r' d.n e d.st:=by
    intro he h
    simp only[T.expect,C.fin.injEq,true_and] at h
    obtain⟨v0,h0,h1⟩:=zE.1 h.1
    refine⟨v0,h1,he,h0,λb k hk=>?_⟩
    have hmem:=N0 hk
    grind [List.map_inj_left]
   grind [T.expect]
  | LW E=>exact HA (by simpa[T.expect] using h)
  | iX rs res outs ex Zu=>
   cases r' with
   | inl y=>
    have key:(e=.normal\/e=.ret)->C.fin ((L2 P d.st rs).map (D8 8 (res y))) none [] ((outs y).map λp=>(p.1,d.st.b p.1))=C.fin (some (res y)) none [] ((outs y).map λp=>(p.1,some p.2))->∃v0,D8 8 (res y) v0=res y/\NP P rs v0 (Qe (outs y)) e d.st:=by
     intro he h
     simp only[C.fin.injEq,true_and] at h
     obtain⟨v0,h0,h1⟩:=zE.1 h.1
     refine⟨v0,h1,he,h0,λb k hk=>?_⟩
     have hmem:=N0 hk
     grind [List.map_inj_left]
    simp only at h
    split at h
    ·exact key (.inl rfl) (by simpa[T.expect] using h)
    ·exact key (.inr rfl) (by simpa[T.expect] using h)
    ·simp[T.expect] at h
   | inr z=>
    simp only[T.expect,C.fin.injEq,true_and,zy] at h
    refine⟨h.1,λb k hk=>?_⟩
    have hmem:=N0 hk
    grind [List.map_inj_left]
  | reg ts E=>exact absurd h (Z6 _ _ _)
  | VP S E=>
   cases r' with
   | inl y=>
    simp only at h
    split at h
    ·rename_i hn;exact⟨hn,HA (by simpa[T.expect] using h)⟩
    grind [Z6,absurd]
   | inr z=>
    simp only at h
    split at h
    ·exact absurd h (Z6 _ _ _)
    ·rename_i hn;exact⟨hn,HA (by simpa[T.expect] using h)⟩
theorem YV{x:Ext}{n:Nat}(hok:x.ok=true):(x.D n).Ok:=by
 have hok':=hok
 simp only[Ext.ok,zD,zG] at hok'
 refine D.Ok.yX (λp hp=>hok'.1 p hp) (λp hp=>⟨?_,λr hr c hc=>?_⟩) (λb hb k hk=>?_)
 ·simp only[ZX,Ext.D,Ext.us,zU,zZ,zC]
  exact .inl (zH.2 ⟨p,hp,rfl⟩)
 ·have:=hok'.2 p hp
  simp only[KE,zU,zZ,zC,zG] at this
  rcases this with h1|h1
  ·exact R9 (x.JC p hp h1 r hr c hc) _
  ·exact h1 r hr c hc
 ·unfold D.st at hk
  rw[Ka] at hk
  split at hk
  ·rename_i p hp
   simp only[zy] at hk
   subst hk
   obtain⟨h1,h2⟩:=N1 hp
   exact x.JC p h1 (by rw[h2];exact hb)
  ·simp at hk
theorem Yv{e:Exit}(h:A8 e=false):e≠.normal:=by grind [A8]
theorem Jx{e:Exit}(h:A8 e=true):e=.normal:=by grind [A8]
theorem Hw{A:St->Prop}{Q:Exit->St->Prop}{e:Exit}(h:e≠.normal)(s:St)(hq:Q e s):EO A Q e s:=by
 cases e<;>first|exact absurd rfl h|exact hq
include hrec in
theorem Vh{e:Exit}(hd:d.Ok)(h:sxE rec F g e K d=g.expect F)(hr:g.run=some r):Rel P G (Qx P G (N8 P F r d.n) K) e d.st:=by
 unfold sxE at h
 split at h
 ·exact Rel.of (uY h hr)
 ·rename_i y K
  split at h
  ·rename_i hn
   have:=hrec _ _ _ _ _ _ _ hd h hr
   rw[Jx hn]
   exact Rel.of (show TV P G y d.st _ from this)
  ·rename_i hn
   have:Rel P G (Qx P G (N8 P F r d.n) K) e d.st:=hrec _ _ _ _ _ _ _ hd h hr
   exact this.mono λs hq=>Hw (Yv hn) s hq
 ·rename_i id K
  split at h
  ·rename_i id'
   split at h
   ·rename_i he
    have:Rel P G (Qx P G (N8 P F r d.n) K) .normal d.st:=hrec _ _ _ _ _ _ _ hd h hr
    refine this.mono λs hq=>?_
    show V5 id _ (.exit id') s
    simp_all [if_pos,V5]
   ·rename_i he
    have:Rel P G (Qx P G (N8 P F r d.n) K) (.exit id') d.st:=hrec _ _ _ _ _ _ _ hd h hr
    refine this.mono λs hq=>?_
    show V5 id _ (.exit id') s
    simp_all [if_neg,V5]
  ·rename_i he
   have:Rel P G (Qx P G (N8 P F r d.n) K) e d.st:=hrec _ _ _ _ _ _ _ hd h hr
   refine this.mono λs hq=>?_
   show V5 id _ e s
   cases e<;>first|exact absurd rfl (he _)|exact hq
 ·rename_i K
  split at h
  ·exact absurd h (Z6 _ _ _)
  ·rename_i he
   have:Rel P G (Qx P G (N8 P F r d.n) K) e d.st:=hrec _ _ _ _ _ _ _ hd h hr
   refine this.mono λs hq=>?_
   show noGoto _ e s
   cases e<;>first|exact absurd rfl (he _)|exact hq
 ·rename_i c K
  split at h
  ·rename_i hn
   have:=hrec _ _ _ _ _ _ _ hd h hr
   rw[Jx hn]
   exact Rel.of (show NL P G c d.st _ from NL.once this)
  ·rename_i hn
   have:Rel P G (Qx P G (N8 P F r d.n) K) e d.st:=hrec _ _ _ _ _ _ _ hd h hr
   exact this.mono λs hq=>Hw (Yv hn) s hq
omit hrec hm in
theorem aR{p:Y4}{x:List Loc×List Wr}{y:Wr}{i:Nat}(hx:x∈p)(hy:y∈x.2)(e:y.loc=.t i):i∈p.Rm:=by
 refine wy.2 ⟨x,hx,List.mem_filterMap.2 ⟨y,hy,?_⟩⟩
 cases y with
 | t j c=>grind [Loc.t.injEq,Wr.loc]
 | b j k=>simp[Wr.loc] at e
theorem aP{p:Y4}{x:List Loc×List Wr}{y:Wr}{i:Nat}(hx:x∈p)(hy:y∈x.2)(e:y.loc=.b i):i∈p.Dx:=by
 refine wy.2 ⟨x,hx,List.mem_filterMap.2 ⟨y,hy,?_⟩⟩
 cases y with
 | b j k=>grind [Loc.b.injEq,Wr.loc]
 | t j c=>simp[Wr.loc] at e
theorem UL{α:Type}(l:List (Nat×α))(f:zh)(i:Nat):(l.filter λx=>f x.1).find? (λp=>p.1==i)=if f i then l.find? (λp=>p.1==i) else none:=by
 grind
theorem XW{P:Program}{G:ze}{ops:Array Oper}{ip:Nat}{st0:St}:∀{m:Nat} {p:Y4} {s:St} {p':Y4},
  XK P G ops ip (List.range' p.length m) s p=some p'->
  (s=U9 p st0 p.length/\∀j,j < p.length->j≠ip->((YP ops.toList).getD j 0).testBit ip=false->X4 P G ops j (U9 p st0 j) (p.rs j) (p.ws j))->ip < p.length->
  p'.length=p.length+m/\True/\(∀j,j < p.length+m->j≠ip->((YP ops.toList).getD j 0).testBit ip=false->X4 P G ops j (U9 p' st0 j) (p'.rs j) (p'.ws j))/\(∀j,j<=p.length->U9 p' st0 j=U9 p st0 j)/\∀j,j < p.length->p'[j]?=p[j]?
 | 0,p,s,p',h,hs,_=>by
  obtain rfl:p=p':=by simpa[XK] using h
  exact⟨rfl,trivial,hs.2,λ_ _=>rfl,λ_ _=>rfl⟩
 | m+1,p,s,p',h,hs,hip=>by
  rw[List.range'_succ] at h
  have next:∀{s1:St} {x:List Loc×List Wr},XK P G ops ip (List.range' (p.length+1) m) s1 (p++[x])=some p'->s1=(U9 p st0 p.length).app x.2->(((YP ops.toList).getD p.length 0).testBit ip=false->X4 P G ops p.length (U9 p st0 p.length) x.1 x.2)->
    p'.length=p.length+(m+1)/\True/\(∀j,j < p.length+(m+1)->j≠ip->((YP ops.toList).getD j 0).testBit ip=false->X4 P G ops j (U9 p' st0 j) (p'.rs j) (p'.ws j))/\(∀j,j<=p.length->U9 p' st0 j=U9 p st0 j)/\∀j,j < p.length->p'[j]?=p[j]?:=by
   intro s1 x h1 h2 h3
   have hl:(p++[x]).length=p.length+1:=by simp
   rw[<-hl] at h1
   have:=XW h1 ⟨by rw[h2];exact(KD p x st0).symm,λj hj hne hw=>by
    by_cases hj':j < p.length
    ·have e1:(p++[x]).rs j=p.rs j/\(p++[x]).ws j=p.ws j:=by
      unfold Y4.rs Y4.ws
      rw[wv,wv,wg hj'];exact⟨rfl,rfl⟩
     grind [D1]
    ·obtain rfl:j=p.length:=by omega
     have e1:(p++[x]).rs p.length=x.1/\(p++[x]).ws p.length=x.2:=by
      unfold Y4.rs Y4.ws
      rw[wv,List.getElem?_concat_length];exact⟨rfl,rfl⟩
     rw[D1 _ _ _ _ (zI _),e1.1,e1.2]
     exact h3 hw⟩ (by omega)
   obtain⟨a1,_,a3,a4,a5⟩:=this
   rw[hl] at a1 a3
   refine⟨by omega,trivial,λj hj=>a3 j (by omega),(by grind [D1]),(by grind)⟩
  simp only[XK] at h
  split at h
  ·rename_i hw
   exact next h (by rw[hs.1];rfl) (by grind)
  grind [YE]
theorem MU{d:D}{p:Y4}{s:St}(hd:d.Ok)(hn:s.n=d.n)(h:∀l,(∀x,x∈p->∀y,y∈x.2->y.loc≠l)->O0 s d.st l):F9 s (WT d p).st:=by
 have mu:∀b,ZX d.us b=true->(WT d p).st.u b=true:=λb hb=>by
  show ((p.Dx++d.us).contains b || Qk b)=true
  simp only[ZX,zU,zZ,zC,wa] at hb ⊢
  grind
 have mono:∀c,okV (ZX d.us) c=true->okV (WT d p).st.u c=true:=λc hc=>F4 mu c hc
 refine⟨hn.symm,λi=>?_,λb=>?_,(by grind [Uw,D.st,E6,Qk])⟩
 ·have e0:(WT d p).st.t i=(match (d.ts.filter λx=>!p.Rm.contains x.1).find? (λp=>p.1==i) with|some p=>p.2|none=>V.undef):=rfl
  rw[UL d.ts (λi=>!p.Rm.contains i)] at e0
  by_cases hc:p.Rm.contains i=true
  ·grind
  ·have hc':p.Rm.contains i=false:=by simpa using hc
   rw[hc'] at e0
   have e:s.t i=d.st.t i:=h (.t i) λx hx y hy e=>(by grind [aR])
   refine .inr ⟨by rw[e0,e];rfl,by rw[e];exact mono _ (hd.tmp i)⟩
 ·have e0:(WT d p).st.b b=(match (d.bs.filter λx=>!p.Dx.contains x.1).find? (λp=>p.1==b) with|some p=>some p.2|none=>none):=rfl
  rw[UL d.bs (λi=>!p.Dx.contains i)] at e0
  by_cases hc:p.Dx.contains b=true
  ·grind
  ·have hc':p.Dx.contains b=false:=by simpa using hc
   rw[hc'] at e0
   have e:s.b b=d.st.b b:=(h (.b b) λx hx y hy e=>(by grind [aP])).1
   refine .inr ⟨by rw[e0,e];rfl,λk hk=>?_⟩
   rw[e] at hk
   obtain⟨h1,h2⟩:=hd.ZQ hk
   grind
theorem uL{d:D}{p:Y4}(hd:d.Ok):(WT d p).Ok:=by
 have f:=MU (p:=p) hd (s:=d.st) rfl λl _=>O0.refl _ l
 refine D.Ok.Wg f λb hb k hk r hr c hc=>?_
 rcases f.b b with h|⟨h,_⟩
 ·grind
 ·rw[h] at hk;exact hd.sy b hb k hk r hr c hc
include hrec hm in
theorem IW{id:Nat}{ops:Array Oper}{draw:Bool}(hd:d.Ok)(h:gF kp rec F id ops draw g K d=g.expect F)(hr:g.run=some r):TV P G (.region id ops draw) d.st (Qx P G (N8 P F r d.n) K):=by
 rcases Mw h hr hd.sy with⟨g',s,p,sy',x1,x2,x3,x4,x5,x6⟩|⟨v,g',sy',p,R,W,x1,x2,x3,x4,x5,x6⟩
 ·split at x1
  ·rename_i hdr
   obtain⟨d',y1,y2,y3,y4⟩:=Hp x1 (λj=>Z6 F g' j) hd x5 x3
   have hq:Rel P G (Qx P G (N8 P F r d'.n) K) .normal d'.st:=hrec _ _ _ _ _ _ _ y2 y1 x2
   rw[y4] at hq
   refine TV.rel (Q':=λe s'=>e=.normal/\s'=s) (TV.Cf hm hdr x5 x6 ⟨rfl,rfl⟩) λe s' he=>?_
   obtain⟨rfl,rfl⟩:=he
   exact hq.forget y3
  grind [Z6,absurd]
 ·cases draw with
  | false=>
   obtain⟨d',y1,y2,y3,y4⟩:=Hp x1 (λj=>Z6 F g' j) hd (KD p (R,W) d.st).symm x3
   have hq:Rel P G (Qx P G (N8 P F r d'.n) K) (.panic v) d'.st:=hrec _ _ _ _ _ _ _ y2 y1 x2
   rw[y4] at hq
   refine TV.rel (Q':=λe s''=>e=.panic v/\s''=(U9 p d.st p.length).app W) (TV.Qzz x4 x5 (x6 _ rfl λl _=>O0.refl _ l) ⟨rfl,rfl⟩) λe s'' he=>?_
   obtain⟨rfl,rfl⟩:=he
   exact hq.forget y3
  | true=>
   simp only at x1
   split at x1
   rotate_left
   ·exact absurd x1 (Z6 _ _ _)
   rename_i p' hw
   split at x1
   rotate_left
   ·exact absurd x1 (Z6 _ _ _)
   rename_i hc
   simp only[zD,KK] at hc
   have hlen:(p++[(R,W)]).length=p.length+1:=by simp
   rw[show (p++[(R,W)]).length - 1=p.length by simp] at hw
   obtain⟨r1,r2,r3,r4,r5⟩:=XW (st0:=d.st) (ip:=p.length) hw ⟨(KD p (R,W) d.st).symm,λj hj hne _=>by
     have hj':j < p.length:=by omega
     rw[D1 _ _ _ _ (by omega)]
     have e1:(p++[(R,W)]).rs j=p.rs j/\(p++[(R,W)]).ws j=p.ws j:=by
      unfold Y4.rs Y4.ws
      rw[wv,wv,wg hj'];exact⟨rfl,rfl⟩
     rw[e1.1,e1.2];exact x5 j hj'⟩ (by omega)
   have e2:∀i,i<=ops.size->p'.st (λj=>decide (j < i)) d.st ops.size=U9 p' d.st i:=λi hi=>by
    simp_all [Ux,min]
   have hx:(R,W)∈p':=by
    grind
   have far:∀(D:zh) (l:Loc),(∀x,x∈p'->∀y,y∈x.2->y.loc≠l)->O0 ((p'.st D d.st ops.size).app W) d.st l:=λD l h=>by
    refine(O1 W _ (h (R,W) hx)).trans ?_
    have key:∀n,O0 (p'.st D d.st n) d.st l:=λn=>by
     induction n with
     | zero=>exact O0.refl _ _
     | succ n ih=>
      simp only[Y4.st]
      split
      ·refine(O1 _ _ λy hy=>?_).trans ih
       grind [List.mem_of_getElem?,Y4.ws]
      ·exact ih
    exact key _
   have fg:∀D:Nat->Bool,F9 ((p'.st D d.st ops.size).app W) (WT d p').st:=λD=>MU hd (by rw[Ob,Y4.Vx];rfl) λl h=>far D l h
   have hq:Rel P G (Qx P G (N8 P F r (WT d p').n) K) (.panic v) (WT d p').st:=hrec _ _ _ _ _ _ _ (uL hd) x1 x2
   refine TV.rel (Q':=λe s''=>e=.panic v/\∃D:Nat->Bool,s''=(p'.st D d.st ops.size).app W) (TV.lN (ip:=p.length) (ex:=.panic v) (W:=W) hm hc.1 hc.2 (λi hi hne hw=>?_) (λh=>by omega) λ_=>⟨?_,λD=>⟨rfl,D,rfl⟩⟩) λe s'' he=>?_
   ·grind
   ·rw[e2 _ (by omega)]
    simp_all [wv,List.getElem?_concat_length,D1,zI,Y4.rs]
   ·obtain⟨rfl,D,rfl⟩:=he
    exact hq.forget (fg D)
theorem Gi{ops:Array Oper}{draw:Bool}{ts:List Nat}{ε:Type}{E:ε->List V}{first:T P G ε}{e:ε}{s:St}{p:Y4}(h:Pq P G ops draw ts d first s p=first.expect (.reg ts E))(hr:first.run=some e) :
  ts.map s.t=E e/\(!draw || KK ops p)=true/\(∀b,b∈p.Dx->∀x,x∈d.bs->x.1≠b)/\∀t,t∈p.Rm->t∈ops.toList.filterMap (·.dst):=by
 unfold Pq at h
 split at h
 ·rename_i r'
  simp only[T.run,zy] at hr
  subst hr
  split at h
  ·grind [C.vZ.injEq,T.expect]
  grind [Z6,absurd]
 ·simp[T.run] at hr
 grind [Z6,absurd]
theorem TU{ts:List Nat}{vs:List V}{s:St}(h:ts.map s.t=vs):∀p,p∈ts.zip vs->s.t p.1=p.2:=by
 subst h
 intro p hp
 induction ts with
 | nil=>simp at hp
 | cons t ts ih=>
  grind [List.zip_cons_cons]
include hrec hm in
theorem Vj{id:Nat}{ops:Array Oper}{draw:Bool}(hd:d.Ok)(h:sxR kp rec F id ops draw g K d=g.expect F)(hr:g.run=some r):TV P G (.region id ops draw) d.st (Qx P G (N8 P F r d.n) K):=by
 unfold sxR at h
 split at h
 ·rename_i ε id' ts first E k
  split at h
  ·simp only[T.expect,C.bind.injEq,heq_eq_eq,true_and] at h
   obtain⟨h1,h2⟩:=h
   simp only[T.run] at hr
   split at hr
   ·rename_i e he
    have h3:=congrFun h2 e
    split at h3
    ·rename_i hok
     simp only[zD,zG,beq_iff_eq] at hok
     rcases Mw h1 he hd.sy with⟨g',s,p,sy',x1,x2,x3,x4,x5,x6⟩|⟨_,_,_,_,_,_,x1,_⟩
     rotate_left
     ·exact absurd x1 (Z6 _ _ _)
     obtain⟨y1,y2,y3,y4⟩:=Gi x1 x2
     have tmp:∀i,¬i∈ops.toList.filterMap (·.dst)->s.t i=d.st.t i:=(by grind [Jf])
     have fg:F9 s (PL ops ts d (E e)).st:=by
      refine⟨?_,λi=>?_,λb=>?_,λb hb=>Md (Uw hb)⟩
      ·rw[x5,Fo];rfl
      ·have e0:(PL ops ts d (E e)).st.t i=(match (ts.zip (E e)++d.ts.filter λx=>!(ops.toList.filterMap (·.dst)).contains x.1&&!ts.contains x.1).find? (λp=>p.1==i) with|some p=>p.2|none=>.undef):=rfl
       rw[e0,List.find?_append]
       cases hf:(ts.zip (E e)).find? (λp=>p.1==i) with
       | some x=>
        obtain⟨z1,z2⟩:=N1 hf
        have z3:=TU y1 x z1
        refine .inr ⟨by grind,?_⟩
        rw[<-z2,z3]
        exact hok.1 x.2 (List.of_mem_zip z1).2
       | none=>
        simp only[Option.none_or]
        cases hw:(!(ops.toList.filterMap (·.dst)).contains i&&!ts.contains i) with
        | false=>grind
        | true=>
         rw[F8 (q:=λj=>!(ops.toList.filterMap (·.dst)).contains j&&!ts.contains j) hw]
         simp only[zD,wc,zZ,decide_eq_false_iff_not] at hw
         have e1:=tmp i hw.1
         exact .inr ⟨by rw[e1];rfl,by rw[e1];exact hd.tmp i⟩
      ·have e0:(PL ops ts d (E e)).st.b b=d.st.b b:=rfl
       rw[e0]
       by_cases hw:b∈p.Dx
       ·grind [Ka,List.find?_eq_none,D.st]
       ·have e1:s.b b=d.st.b b:=by grind [Jg]
        refine .inr ⟨by rw[e1],λk hk=>?_⟩
        rw[e1] at hk
        exact hd.ZQ hk
     have ok':(PL ops ts d (E e)).Ok:=D.Ok.Wg fg hd.sy
     have hq:Rel P G (Qx P G (N8 P F r d.n) K) .normal (PL ops ts d (E e)).st:=hrec _ _ _ _ _ (PL ops ts d (E e)) _ ok' h3 hr
     refine TV.rel (Q':=λe s'=>e=.normal/\s'=s) (TV.Cf hm y2 x5 x6 ⟨rfl,rfl⟩) λe s' he=>?_
     obtain⟨rfl,rfl⟩:=he
     exact hq.forget fg
    grind [Z6,absurd]
   ·simp at hr
  grind [IW]
 grind [IW]
end
end
structure Y2(w w1:World):Prop where
 size:w.heap.size<=w1.heap.size
 same:∀(B:Nat) (cs:Array Value) (e:TypeId) (fz:Nat×Nat),w.heap[B]?=some (.cells cs e fz)->w1.heap[B]?=some (.cells cs e fz)
 maps:∀(B:Nat) (es:Array MapEntry) (k:Nat),w.heap[B]?=some (.map es k)->w1.heap[B]?=some (.map es k)
theorem Y2.trans{a b c:World}(h:Y2 a b)(k:Y2 b c):Y2 a c:=⟨Nat.le_trans h.size k.size,λB cs e fz hb=>k.same B cs e fz (h.same B cs e fz hb),λB es c hb=>k.maps B es c (h.maps B es c hb)⟩
theorem Y2.row{w w1:World}(h:Y2 w w1){B:Nat}{cs:Array Value}{e:TypeId}(hr:E9 w B cs e):E9 w1 B cs e:=by
 obtain⟨fz,h1,h2⟩:=hr
 exact⟨fz,h.same _ _ _ _ h1,h2⟩
theorem Ut{w:World}{B o:Nat}{v:Value}(h:cellAt w B o=some v):∃cs e fz,w.heap[B]?=some (.cells cs e fz):=by
 grind [cellAt,World.cell?]
theorem Y2.cell{w w1:World}(h:Y2 w w1){B o:Nat}{v:Value}(hc:cellAt w B o=some v):cellAt w1 B o=some v:=by
 obtain⟨cs,e,fz,hb⟩:=Ut hc
 have:=h.same B cs e fz hb
 grind [cellAt,World.cell?]
theorem Y2.room{w w1:World}(h:Y2 w w1){B n:Nat}(hr:Jp w B n):Jp w1 B n:=by
 obtain⟨cs,e,fz,h1,h2⟩:=hr
 exact⟨cs,e,fz,h.same B cs e fz h1,h2⟩
theorem Y2.rep{w w1:World}(h:Y2 w w1){γ:Gh}{bs:zg}{u:zh}{c:V}{v:Value}(hr:Qu γ w bs u c v):Qu γ w1 bs u c v:=by
 induction hr with
 | data h1=>exact .data (h1.mono λB o v h1 h2=>⟨h1,h.cell h2⟩)
 | undef v=>exact .undef v
 | ref b off len B o cap k h1 h2 h3 h4 h5 h6 h7=>exact .ref b off len B o cap k h1 h2 h3 h4 (h.room h5) h6 h7
 | Jk b off B k h1 h6 h2=>exact .Jk b off B k h1 h6 h2
 | YW b off k h1 h6 h2=>exact .YW b off k h1 h6 h2
 | Qb b off len v h1 h2 h3=>exact .Qb b off len v h1 h2 h3
 | ptr b i off B o k h1 h2 h3=>exact .ptr b i off B o k h1 h2 h3
 | mp b B k h1 h2 h3=>exact .mp b B k h1 h2 h3
 | QT b v h1 h2 h3=>exact .QT b v h1 h2 h3
 | QK b i off v h1 h2 h3=>exact .QK b i off v h1 h2 h3
 | fn f first captured fs cs h1 h2 _ _ ih1 ih2=>exact .fn f first captured fs cs h1 h2 ih1 ih2
 | agg cells vs h1 _ ih=>exact .agg cells vs h1 ih
 | Qt cells vs h1 _ ih=>exact .Qt cells vs h1 ih
theorem Y2.right{w w1:World}(h:Y2 w w1){γ:Gh}{t:K7}{c:V}{v:Value}(hr:D3 γ w t c v):D3 γ w1 t c v:=by
 unfold D3 at hr ⊢
 split at hr
 ·rcases hr with hr|⟨h1,cs,e,h2,h3⟩
  ·exact .inl hr
  ·exact .inr ⟨h1,cs,e,h.row h2,h3⟩
 ·trivial
theorem Y2.hG{w w1:World}(h:Y2 w w1){γ:Gh}{bs:zg}{u:zh}{b:Nat}{k:Qi}(hb:D4 γ w bs u b k):D4 γ w1 bs u b k:=by
 rcases hb with h0|hm|⟨hM,B,o,cs,e,a1,a2,a3,a4,a5,a6,a7,a8⟩
 ·exact .inl h0
 ·obtain⟨hM,B,es,clock,h1,h2,h3,h4,h5,h6,h7⟩:=hm
  refine .inr (.inl ⟨hM,B,es,clock,h1,h2,h.maps _ _ _ h3,h4,h5,h6,λi c hc=>?_⟩)
  obtain⟨v,a1,a2,a3⟩:=h7 i c hc
  exact⟨v,a1,h.rep a2,a3⟩
 ·refine .inr (.inr ⟨hM,B,o,cs,e,a1,a2,h.row a3,a4,a5,λi c hc=>?_,a7,a8⟩)
  obtain⟨x,b1,b2,b3,b4⟩:=a6 i c hc
  exact⟨x,b1,h.rep b2,b3,h.right b4⟩
theorem Y2.Gq{w w1:World}(h:Y2 w w1){G:ze}{γ:Gh}{st:St}{tmps:Array Value}(hs:Qs G γ st tmps w):Qs G γ st tmps w1:=
 ⟨hs.n,λi=>h.rep (hs.t i),λb k hk=>h.hG (hs.b b k hk),hs.u,λg cells hg=>(hs.g g cells hg).mono λ_ _ _ h1 h2=>⟨h1,h.cell h2⟩,λB x hx=>wG (hs.o B x hx) h.size⟩
theorem Qa.same{γ γ':Gh}{w w1 w2:World}(g:Qa γ w γ' w1)(h:Y2 w1 w2)(hl:∀B,B < w.heap.size->w2.heap[B]?=w1.heap[B]?)(h1:w2.os=w1.os)(h2:w2.tape=w1.tape)(h3:w2.output=w1.output):Qa γ w γ' w2 where
 os:=h1.trans g.os
 tape:=h2.trans g.tape
 output:=h3.trans g.output
 size:=Nat.le_trans g.size h.size
 NS:=λB o v hB hc=>h.cell (g.NS B o v hB hc)
 Qp:=g.Qp
 free:=λB hB ho=>by
  obtain⟨a1,a2,a3⟩:=g.free B hB ho
  grind
 room:=λB cs e fz hc=>by
  obtain⟨cs',fz',a1,a2⟩:=g.room B cs e fz hc
  grind
def Fj:Obj->Bool
 | .cells _ _ _=>true
 | .map _ _=>true
 | _=>false
theorem Y2.put{w:World}{l:Nat}{o o':Obj}(h:w.heap[l]?=some o)(hn:Fj o=false):Y2 w (w.putObj l o'):=
 ⟨by simp,λB cs e fz hb=>by
  have hne:B≠l:=λe'=>by subst e';rw[h] at hb;simp only[zy] at hb;rw[hb] at hn;cases hn
  grind [World.putObj_heap_other],λB es c hb=>by
  have hne:B≠l:=λe'=>by subst e';rw[h] at hb;simp only[zy] at hb;rw[hb] at hn;cases hn
  grind [World.putObj_heap_other]⟩
theorem Qa.put{γ γ':Gh}{w w1:World}(g:Qa γ w γ' w1){l:Nat}{o o':Obj}(h:w1.heap[l]?=some o)(hn:Fj o=false)(hl:w.heap.size<=l):Qa γ w γ' (w1.putObj l o'):=
 g.same (.put h hn) (by grind [World.putObj_heap_other]) rfl rfl rfl
theorem L8{P:Program}{fn:Func}{tmps:Array Value}{R:Ending->World->Prop}{rest:List Deferred}{u:FrameMode}(hu:u≠.run)(I:World->Prop)(hI:∀w,I w->LeavesInM (RF none) 0 P fn tmps R rest u w) :
  ∀(Ds:List Nat) (w:World),I w->Ds.Nodup->(∀D,D∈Ds->w.heap[D]?=some (.deferred (some [])))->(∀D w,D∈Ds->I w->w.heap[D]?=some (.deferred (some []))->I (w.putObj D (.deferred none)))->
   LeavesInM (RF none) 0 P fn tmps R (Ds.map ZP++rest) u w
 | [],w,h,_,_,_=>hI w h
 | D :: Ds,w,h,hn,hd,hp=>by
  refine⟨hu,.inl ⟨D,_,rfl,run_takeDeferred (hd D (by simp)),?_⟩⟩
  have hn':=List.nodup_cons.1 hn
  refine L8 hu I hI Ds _ (by grind) hn'.2 (λE hE=>?_) (by grind)
  grind [World.putObj_heap_other]
theorem Yz{P:Program}{fn:Func}{tmps:Array Value}{R:Ending->World->Prop}(I:World->Prop)(hI:∀w,I w->∃v,(results fn tmps).run P w=.ok v w/\R (.returned v) w) :
  ∀(Ds:List Nat) (w:World),I w->Ds.Nodup->(∀D,D∈Ds->w.heap[D]?=some (.deferred (some [])))->(∀D w,D∈Ds->I w->w.heap[D]?=some (.deferred (some []))->I (w.putObj D (.deferred none)))->
   LeavesInM (RF none) 0 P fn tmps R (Ds.map ZP) .returning w
 | [],w,h,_,_,_=>hI w h
 | D :: Ds,w,h,hn,hd,hp=>by
  refine⟨by simp,.inl ⟨D,_,rfl,run_takeDeferred (hd D (by simp)),?_⟩⟩
  have hn':=List.nodup_cons.1 hn
  refine Yz I hI Ds _ (by grind) hn'.2 (λE hE=>?_) (by grind)
  grind [World.putObj_heap_other]
section
variable {P:Program} {G:ze} {kp:List Nat} {rec:Rec P G} (hm:P.follows .mixedOrders=true) (hrec:BH rec) {ρ:Type} {F:Yw ρ} {g:T P G ρ} {K:List Kf} {d:D} {r:ρ}
theorem TV.RJ{c:Code}{st:St}{Q:Exit->St->Prop}(h:TV P G c st (noGoto Q)):TV P G (.scope c) st Q:=
 (TV.scope h λl s hs=>hs.elim).mono λe s hs=>by
  cases e<;>first|exact hs.elim|exact hs
theorem CM{σ ε:Type}{S:σ->Ext}{body:σ->T P G (σ⊕ε)}{E:ε->Ext}{x:Code}{n:Nat}(hrec:BH rec)
  (hb:∀y,(match (S y).ok&&A8 (S y).ex with
     | true=>rec _ (.VP S E) (body y) (.inl x) [] ((S y).D n)
     | false=>.stuck 69)=(body y).expect (.VP S E))
  (e0:ε) (m:Nat) (y0:σ) (hit:X7 (λy=>(body y).run) m y0=some e0):TV P G (.loop x) ((S y0).D n).st (Ur (E e0) n):=by
 have okS:∀y,(S y).ok=true/\rec _ (.VP S E) (body y) (.inl x) [] ((S y).D n)=(body y).expect (.VP S E):=(by grind [Z6,absurd])
 refine TV.loop (λm st=>∃y,st=((S y).D n).st/\X7 (λy=>(body y).run) m y=some e0) (λm st hI=>?_) (n:=m) ⟨y0,rfl,hit⟩
 obtain⟨y,rfl,hy⟩:=hI
 obtain⟨s1,s3⟩:=okS y
 cases m with
 | zero=>simp[X7] at hy
 | succ m=>
  have hy':(match (body y).run with|none=>none|some (.inl z)=>X7 (λy=>(body y).run) m z|some (.inr e)=>some e)=some e0:=hy
  cases hrun:(body y).run with
  | none=>grind
  | some z=>
   rw[hrun] at hy'
   cases z with
   | inl z=>
    simp only at hy'
    have key:TV P G x ((S y).D n).st (λe s=>A8 e=true/\Ur (S z) n e s):=hrec _ _ _ _ _ _ _ (YV s1) s3 hrun
    obtain⟨z1,_⟩:=okS z
    refine TV.rel key λe s hg=>?_
    obtain⟨g0,_,g2,g3,g4⟩:=hg
    have f:=T4 (G:=G) (s:=s) z1 g3 g4
    rw[g2] at f
    rw[Jx g0]
    exact Rel.ghost f (Rel.of ⟨m,by omega,z,rfl,hy'⟩)
   | inr e=>
    simp only[zy] at hy'
    subst hy'
    have key:TV P G x ((S y).D n).st (λe' s=>A8 e'=false/\Ur (E e) n e' s):=hrec _ _ _ _ _ _ _ (YV s1) s3 hrun
    exact key.mono (by grind [Hw,Yv])
include hrec in
theorem JQ{ε:Type}{S:Sub P G ε}{e:ε}{k:T P G ρ}{c:Code}(h1:c=S.c)(h2:d.n=S.n)(hx:S.x.ok=true)(h3:WS S.x d.st=S.x.ts)(h4:WB S.x d.st=S.x.bs.map λp=>(p.1,some p.2))(he:S.o=some e)
  (h6:(match (S.E e).ok with
   | true=>rec ρ F k (.inr (S.E e).ex) K ((S.E e).D d.n)
   | false=>.stuck 64)=k.expect F) (hr:k.run=some r):TV P G c d.st (Qx P G (N8 P F r d.n) K):=by
 split at h6
 ·rename_i hok
  have key:=S.ok e he
  rw[<-h1,<-h2] at key
  have hq:Rel P G (Qx P G (N8 P F r d.n) K) (S.E e).ex ((S.E e).D d.n).st:=hrec _ _ _ _ _ ((S.E e).D d.n) _ (YV hok) h6 hr
  refine TV.ghost (T4 (s:=d.st) hx h3 h4) (TV.rel key λe' s hg=>?_)
  obtain⟨g1,g2⟩:=hg
  rw[g1]
  exact hq.ghost g2
 grind [Z6,absurd]
include hrec in
theorem Vu{c:Code}(hd:d.Ok)(h:sxN rec F g c K d=g.expect F)(hr:g.run=some r):TV P G c d.st (Qx P G (N8 P F r d.n) K):=by
 unfold sxN at h
 split at h
 ·rename_i o x y
  split at h
  ·rename_i a' c' a b
   split at h
   ·rename_i c hc
    simp only[T.expect,C.br.injEq] at h
    obtain⟨rfl,h1,h2⟩:=h
    simp only[T.run] at hr
    refine TV.cond hc ?_
    cases c with
    | true=>exact hrec _ _ _ _ _ _ _ hd h1 (by simpa using hr)
    | false=>exact hrec _ _ _ _ _ _ _ hd h2 (by simpa using hr)
   grind [Z6,absurd]
  ·rename_i k
   split at h
   ·rename_i c hc
    split at h
    ·refine TV.cond hc ?_
     exact hrec _ _ _ _ _ _ _ hd (by simpa[T.expect] using h) (by simpa[T.run] using hr)
    grind [Z6,absurd]
   grind [Z6,absurd]
  ·rename_i k
   split at h
   ·rename_i c hc
    split at h
    ·refine TV.cond hc ?_
     exact hrec _ _ _ _ _ _ _ hd (by simpa[T.expect] using h) (by simpa[T.run] using hr)
    grind [Z6,absurd]
   grind [Z6,absurd]
  grind [Z6,absurd]
 ·exact TV.block (hrec _ _ _ _ _ _ _ hd h hr)
 ·exact TV.RJ (hrec _ _ _ _ _ _ _ hd h hr)
 ·rename_i x
  split at h
  ·rename_i σ S body x0
   split at h
   ·rename_i E
    split at h
    ·simp only[T.expect,C.loop.injEq,heq_eq_eq,true_and] at h
     obtain⟨h1,h2,h3⟩:=h
     simp only[T.run] at hr
     have hb:=λy=>congrFun h3 y
     have s1:(S x0).ok=true:=by
      grind [Z6,absurd]
     exact TV.ghost (T4 (s:=d.st) s1 h1 h2) (CM hrec hb r ZN x0 hr)
    grind [Z6,absurd]
   grind [Z6,absurd]
  ·exact TV.Aa (hrec _ _ _ _ _ _ _ hd h hr)
 ·split at h
  ·rename_i ε S k
   split at h
   ·rename_i hx
    simp only[T.expect,C.sub.injEq,heq_eq_eq,true_and] at h
    obtain⟨h1,h2,h3,h4,h5⟩:=h
    simp only[T.run] at hr
    split at hr
    ·rename_i e he
     exact JQ hrec h1 h2 hx h3 h4 he (congrFun h5 e) hr
    ·simp at hr
   grind [Z6,absurd]
  ·rename_i ε ζ S k k2
   split at h
   ·rename_i hx
    simp only[T.expect,C.Ez.injEq,heq_eq_eq,true_and] at h
    obtain⟨h1,h2,h3,h4,h5,h6⟩:=h
    simp only[T.run] at hr
    split at hr
    ·rename_i e he
     exact JQ hrec h1 h2 hx h3 h4 he (congrFun h5 e) hr
    ·rename_i e he
     exact JQ hrec h1 h2 hx h3 h4 he (congrFun h6 e) hr
    ·simp at hr
   grind [Z6,absurd]
  grind [Z6,absurd]
 grind [Z6,absurd]
include hrec in
theorem EK{ε:Type}{E:ε->Ext}{E':Ext}{e:ε}{first:T P G ε}{k:T P G ρ}{c:Code}(hd:d.Ok)(h1:rec _ (.LW E) first (.inl c) [] d=first.expect (.LW E))(he:first.run=some e)(hE:E e=E')
  (h3:(match E'.ok with
   | true=>rec ρ F k (.inr E'.ex) K (E'.D d.n)
   | false=>.stuck 64)=k.expect F) (hr:k.run=some r):TV P G c d.st (Qx P G (N8 P F r d.n) K):=by
 subst hE
 split at h3
 ·rename_i hok
  have key:TV P G c d.st (N8 P (.LW E) e d.n):=hrec _ _ _ _ _ _ _ hd h1 he
  have hq:Rel P G (Qx P G (N8 P F r d.n) K) (E e).ex ((E e).D d.n).st:=hrec _ _ _ _ _ ((E e).D d.n) _ (YV hok) h3 hr
  refine TV.rel key λe' s hg=>?_
  obtain⟨g1,g2,g3,g4⟩:=hg
  have f:=T4 (G:=G) (s:=s) hok g3 g4
  rw[g2] at f
  rw[g1]
  exact hq.ghost f
 grind [Z6,absurd]
include hrec in
theorem Vk{c:Code}(hd:d.Ok)(h:sxB rec F g c K d=g.expect F)(hr:g.run=some r):TV P G c d.st (Qx P G (N8 P F r d.n) K):=by
 unfold sxB at h
 split at h
 ·rename_i ε first E k
  simp only[T.expect,C.bind.injEq,heq_eq_eq,true_and] at h
  obtain⟨h1,h2⟩:=h
  simp only[T.run] at hr
  split at hr
  ·rename_i e he
   exact EK hrec hd h1 he rfl (congrFun h2 e) hr
  ·simp at hr
 ·rename_i ε ζ first E E2 k k2
  simp only[T.expect,C.QM.injEq,heq_eq_eq,true_and] at h
  obtain⟨h1,h2,h3⟩:=h
  simp only[T.run] at hr
  split at hr
  ·rename_i e he
   exact EK hrec hd h1 he rfl (congrFun h2 e) hr
  ·rename_i e he
   exact EK hrec hd h1 he rfl (congrFun h3 e) hr
  ·simp at hr
 ·rename_i ε ζ j first E E2 k k2
  have hr':(T.QM j first E E2 k k2).run=some r:=by grind [T.run]
  have ex':(T.QM j first E E2 k k2).expect F=(T.QM (j+1) first E E2 k k2).expect F:=by simp only[T.expect]
  rw[<-ex'] at h
  split at h
  ·exact TV.block (hrec _ _ _ _ _ _ _ hd h hr')
  ·exact TV.RJ (hrec _ _ _ _ _ _ _ hd h hr')
  ·exact TV.Aa (hrec _ _ _ _ _ _ _ hd h hr')
  grind [Z6,absurd]
 ·rename_i ε j first E k
  have hr':(T.bind j first E k).run=some r:=by grind [T.run]
  have ex':(T.bind j first E k).expect F=(T.bind (j+1) first E k).expect F:=by simp only[T.expect]
  rw[<-ex'] at h
  split at h
  ·exact TV.block (hrec _ _ _ _ _ _ _ hd h hr')
  ·exact TV.RJ (hrec _ _ _ _ _ _ _ hd h hr')
  ·exact TV.Aa (hrec _ _ _ _ _ _ _ hd h hr')
  grind [Z6,absurd]
 grind [Vu]
include hrec in
theorem Xl{c:Code}(_:d.Ok)(h:Ss rec F g c K d=g.expect F)(hr:g.run=some r):TV P G c d.st (Qx P G (N8 P F r d.n) K):=by
 unfold Ss at h
 split at h
 ·rename_i ε S k
  split at h
  ·rename_i hx
   simp only[T.expect,C.sub.injEq,heq_eq_eq,true_and] at h
   obtain⟨h1,h2,h3,h4,h5⟩:=h
   simp only[T.run] at hr
   split at hr
   ·rename_i e he
    exact JQ hrec h1 h2 hx h3 h4 he (congrFun h5 e) hr
   ·simp at hr
  grind [Z6,absurd]
 ·rename_i ε ζ S k k2
  split at h
  ·rename_i hx
   simp only[T.expect,C.Ez.injEq,heq_eq_eq,true_and] at h
   obtain⟨h1,h2,h3,h4,h5,h6⟩:=h
   simp only[T.run] at hr
   split at hr
   ·rename_i e he
    exact JQ hrec h1 h2 hx h3 h4 he (congrFun h5 e) hr
   ·rename_i e he
    exact JQ hrec h1 h2 hx h3 h4 he (congrFun h6 e) hr
   ·simp at hr
  grind [Z6,absurd]
 grind [Z6,absurd]
include hrec hm in
theorem Vw{c:Code}(hd:d.Ok)(h:sxC kp rec F g c K d=g.expect F)(hr:g.run=some r):TV P G c d.st (Qx P G (N8 P F r d.n) K):=by
 unfold sxC at h
 split at h
 ·exact TV.Qqs (hrec _ _ _ _ _ _ _ hd h hr)
 ·exact TV.cU (hrec _ _ _ _ _ _ _ hd h hr)
 ·exact TV.Qh8 (hrec _ _ _ _ _ _ _ hd h hr)
 ·exact TV.Qky (hrec _ _ _ _ _ _ _ hd h hr)
 ·split at h
  ·grind [Xl]
  ·exact TV.seq (hrec _ _ _ _ _ _ _ hd h hr)
 ·grind [Vj]
 grind [Vk]
theorem AN.ghost{Q:Exit->St->Prop}{cur:Code⊕Exit}{st st':St}(g:QH G st st')(h:AN P G Q cur K st'):AN P G Q cur K st:=by
 cases cur with
 | inl c=>exact TV.ghost g h
 | inr e=>exact Rel.ghost (P:=P) g h
include hrec hm in
theorem KC{cur:Code⊕Exit}(hd:d.Ok)(h:sxD kp rec F g cur K d=g.expect F)(hr:g.run=some r):AN P G (N8 P F r d.n) cur K d.st:=by
 unfold sxD at h
 split at h
 ·exact Vh hrec hd h hr
 ·exact Vw hm hrec hd h hr
include hrec hm in
theorem Vy{cur:Code⊕Exit}(hd:d.Ok)(h:sxS kp rec F g cur K d=g.expect F)(hr:g.run=some r):AN P G (N8 P F r d.n) cur K d.st:=by
 unfold sxS at h
 split at h
 ·simp[T.run] at hr
 ·rename_i p i k
  simp only[T.expect,C.fact.injEq,heq_eq_eq,true_and] at h
  cases i with
  | isTrue hp=>exact hrec _ _ _ _ _ _ _ hd (congrFun h hp) hr
  | isFalse hp=>simp[T.run] at hr
 ·rename_i a c x y
  split at h
  ·simp only[T.expect,C.br.injEq] at h
   obtain⟨_,h1,h2⟩:=h
   simp only[T.run] at hr
   cases c with
   | true=>exact hrec _ _ _ _ _ _ _ hd h1 (by simpa using hr)
   | false=>exact hrec _ _ _ _ _ _ _ hd h2 (by simpa using hr)
  ·split at h
   ·split at h
    ·simp only[T.expect,C.br.injEq] at h
     obtain⟨_,h1,h2⟩:=h
     simp only[T.run] at hr
     cases c with
     | true=>exact Xl hrec hd h1 (by simpa using hr)
     | false=>exact hrec _ _ _ _ _ _ _ hd h2 (by simpa using hr)
    grind [KC]
   grind [KC]
 ·rename_i a w k
  split at h
  ·simp only[T.expect,C.gh.injEq] at h
   obtain⟨h1,h2⟩:=h
   obtain⟨d',x1,x2,x3,x4⟩:=jA (G:=G) h2 (λj=>Z6 F k j) h1 hd
   have:=hrec _ _ _ _ _ _ _ x2 x1 (by simpa[T.run] using hr)
   rw[x4] at this
   exact this.ghost x3
  grind [KC]
 grind [KC]
end
theorem FN{P:Program}{G:ze}{kp:List Nat}(hm:P.follows .mixedOrders=true):∀n,BH (sx P G kp n)
 | 0=>λ_ F g _ _ _ _ _ h _=>absurd h (Z6 F g 99)
 | n+1=>λ_ _ _ _ _ _ _ hd h hr=>Vy hm (FN hm n) hd h hr
def H3(args:List V):List (Nat×V):=args.zipIdx.map λx=>(x.2,x.1)
def fnC(P:Program)(G:ze)(kp:List Nat)(fn:Func)(args:List V)(x:Ext){ρ:Type}(g:T P G ρ)(res:ρ->V)(outs:ρ->List (Nat×Qi)):Bool×C:=
 (fn.body.isSome&&(x.ok&&x.bs.all λp=>decide (1000000<=p.1)),sx P G kp 100000 ρ (.fn fn.results.toList res outs) g (.inl (fn.body.getD .skip)) [] (x.D (max fn.ntmps args.length)))
theorem UZ:∀(args:List V) (k i:Nat),(match ((args.zipIdx k).map λx=>(x.2,x.1)).find? (λp=>p.1==i+k) with|some p=>p.2|none=>V.undef)=args.getD i .undef
 | [],k,i=>rfl
 | v :: args,k,i=>by
  simp only[List.zipIdx_cons,wj]
  cases i with
  | zero=>simp
  | succ i=>
   rw[List.find?_cons_of_neg (by simp)]
   have:=UZ args (k+1) i
   grind
theorem KM{P:Program}{G:ze}{f:FuncId}{fn:Func}{c:Code}{n:Nat}{args:List V}{ins:zg}{res:V}{outs:zg}
  (hf:P.funcs[f]?=some fn) (hb:fn.body=some c) (hn:n=max fn.ntmps args.length)
  (h:∀(γ:Gh) (a:Act) (w:World),Qs G γ (U3 n args ins) a.tmps w->a.defers=[]->CW none P c (λe a' w'=>∃v0,D8 8 res v0=res/\L0 G ⟨none,[],true⟩ γ (U3 n args ins) w (NP P fn.results.toList v0 outs) e a' w') a w):QR P G f args ins res outs:=by
 intro γ w as hg ho ha hbl
 have hsz:as.size=args.length:=ha.1
 have hs:Qs G γ (U3 n args ins) (as++Array.replicate (fn.ntmps - as.size) undef) w:=by
  refine⟨by grind [Array.size_append,Array.size_replicate,U3],λi=>?_,λb k hk=>(hbl b k hk).2,λb k hk=>(hbl b k hk).1,hg,ho⟩
  show Qu γ w ins Qk (args.getD i .undef) _
  by_cases hi:i < args.length
  ·have e1:args.getD i .undef=args[i]:=by grind
   have e2:(as++Array.replicate (fn.ntmps - as.size) undef).getD i undef=as[i]'(by omega):=by
    simp_all [wk,Array.getElem?_append_left,we]
   rw[e1,e2]
   exact ha.2 i _ _ (by grind) (by grind)
  ·have e1:args.getD i .undef=.undef:=by grind
   rw[e1];exact .undef _
 refine(callsIn_wide (n:=0)).1 (callsIn_of_wp_marks hf hb trivial (wpIn_mono (h γ ⟨as++Array.replicate (fn.ntmps - as.size) undef,[]⟩ w hs rfl) λe a' w' hl=>?_))
 obtain⟨v0,hv0,st',γ',h1,⟨h2,h2p⟩,⟨Ds,_,m1,m2,m3⟩,he,hr,hout⟩:=hl
 have ble:F0 γ' st'.b st'.u γ' outs (λ_=>true):=by
  refine⟨λ_ _=>rfl,λb _ hn=>?_,λb k hk=>⟨rfl,?_⟩⟩
  ·cases ho:outs b with
   | none=>rfl
   | some k=>grind
  ·cases ho:outs b with
   | none=>exact .inl rfl
   | some k'=>
    grind
 have fin:LeavesInM (RF none) 0 P fn a'.tmps (λe w'=>∃v γ',e=.returned v/\Qa γ w γ' w'/\Zr γ ins Qk γ' outs (λ_=>true)/\Qu γ' w' outs (λ_=>true) res v/\
   (∀b k,outs b=some k->D4 γ' w' outs (λ_=>true) b k)/\(∀B x,γ'.own B=some x->B < w'.heap.size)) a'.defers .returning w':=by
  rw[m1,wz]
  refine Yz (λw''=>Qs G γ' st' a'.tmps w''/\Qa γ w γ' w'') (λw'' hI=>?_) Ds w' ⟨h1,h2⟩ m2 (λD hD=>(m3 D hD).2.1) λD w'' hD hI hd=>
   ⟨(Y2.put hd rfl).Gq hI.1,hI.2.put hd rfl (m3 D hD).1⟩
  obtain⟨i1,i2⟩:=hI
  obtain⟨v,hv,hrep⟩:=P4 (P:=P) i1 hr
  refine⟨v,hv,v,γ',rfl,i2,h2p.trans ble.JH,(by have:=HG 8 res v0 v (hrep.mono (.refl _ _) ble);grind),λb k hk=>?_,i1.o⟩
  rcases i1.b b k (hout b k hk) with h0|hm|⟨hM,B,o,cs,e,a1,a2,a3,a4,a5,a6,a7,a8⟩
  ·exact .inl h0
  ·exact .inr (.inl (hm.same rfl (by grind) λc v hr=>hr.mono (.refl _ _) ble))
  refine .inr (.inr ⟨hM,B,o,cs,e,a1,a2,a3,a4,a5,λi c hc=>?_,a7,a8⟩)
  obtain⟨x,b1,b2,b3,b4⟩:=a6 i c hc
  exact⟨x,b1,b2.mono (.refl _ _) ble,b3,b4⟩
 rcases he with rfl|rfl
 ·exact fin
 ·exact fin
theorem PR{P:Program}{G:ze}{f:FuncId}{fn:Func}{c:Code}{n:Nat}{args:List V}{ins:zg}{v:List PanicEntry}{outs:zg}
  (hf:P.funcs[f]?=some fn) (hb:fn.body=some c) (hn:n=max fn.ntmps args.length)
  (h:∀(γ:Gh) (a:Act) (w:World),Qs G γ (U3 n args ins) a.tmps w->a.defers=[]->CW none P c (L0 G ⟨none,[],true⟩ γ (U3 n args ins) w λe s=>e=.panic v/\∀b k,outs b=some k->s.b b=some k) a w) :
  MP P G f args ins v outs:=by
 intro γ w as hg ho ha hbl
 have hsz:as.size=args.length:=ha.1
 have hs:Qs G γ (U3 n args ins) (as++Array.replicate (fn.ntmps - as.size) undef) w:=by
  refine⟨by grind [Array.size_append,Array.size_replicate,U3],λi=>?_,λb k hk=>(hbl b k hk).2,λb k hk=>(hbl b k hk).1,hg,ho⟩
  show Qu γ w ins Qk (args.getD i .undef) _
  by_cases hi:i < args.length
  ·have e1:args.getD i .undef=args[i]:=by grind
   have e2:(as++Array.replicate (fn.ntmps - as.size) undef).getD i undef=as[i]'(by omega):=by
    simp_all [wk,Array.getElem?_append_left,we]
   rw[e1,e2]
   exact ha.2 i _ _ (by grind) (by grind)
  ·have e1:args.getD i .undef=.undef:=by grind
   rw[e1];exact .undef _
 refine(callsIn_wide (n:=0)).1 (callsIn_of_wp_marks hf hb trivial (wpIn_mono (h γ ⟨as++Array.replicate (fn.ntmps - as.size) undef,[]⟩ w hs rfl) λe a' w' hl=>?_))
 obtain⟨st',γ',h1,⟨h2,h2p⟩,⟨Ds,_,m1,m2,m3⟩,rfl,hout⟩:=hl
 have ble:F0 γ' st'.b st'.u γ' outs (λ_=>true):=by
  refine⟨λ_ _=>rfl,λb _ hn=>?_,λb k hk=>⟨rfl,?_⟩⟩
  ·cases ho:outs b with
   | none=>rfl
   | some k=>grind
  ·cases ho:outs b with
   | none=>exact .inl rfl
   | some k'=>
    grind
 show LeavesInM (RF none) 0 P fn a'.tmps _ a'.defers (.panicking v) w'
 rw[m1]
 refine L8 (u:=.panicking v) (by simp) (λw''=>Qs G γ' st' a'.tmps w''/\Qa γ w γ' w'') (λw'' hI=>?_) Ds w' ⟨h1,h2⟩ m2 (λD hD=>(m3 D hD).2.1) λD w'' hD hI hd=>
  ⟨(Y2.put hd rfl).Gq hI.1,hI.2.put hd rfl (m3 D hD).1⟩
 obtain⟨i1,i2⟩:=hI
 refine⟨undef,γ',rfl,i2,h2p.trans ble.JH,.undef _,λb k hk=>?_,i1.o⟩
 rcases i1.b b k (hout b k hk) with h0|hm|⟨hM,B,o,cs,e,a1,a2,a3,a4,a5,a6,a7,a8⟩
 ·exact .inl h0
 ·exact .inr (.inl (hm.same rfl (by grind) λc v hr=>hr.mono (.refl _ _) ble))
 refine .inr (.inr ⟨hM,B,o,cs,e,a1,a2,a3,a4,a5,λi c hc=>?_,a7,a8⟩)
 obtain⟨x,b1,b2,b3,b4⟩:=a6 i c hc
 exact⟨x,b1,b2.mono (.refl _ _) ble,b3,b4⟩
theorem uX{n:Nat}{args:List V}{x:Ext}(hx:x.ts=H3 args)(h3:∀p,p∈x.bs->1000000<=p.1):(x.D n).st=U3 n args (Qe x.bs):=by
 unfold D.st Ext.D E6 U3
 simp only[St.mk.injEq,true_and]
 refine⟨funext λi=>?_,rfl,funext λi=>?_⟩
 ·rw[hx]
  have:=UZ args 0 i
  exact this
 ·cases hu:Qk i with
  | true=>simp
  | false=>
   simp only[Bool.or_false]
   refine Bool.eq_false_iff.2 λhc=>?_
   simp only[Ext.us,zZ,zC] at hc
   obtain⟨p,hp,rfl⟩:=zH.1 hc
   grind [Qk]
def vQ(P:Program)(G:ze)(kp:List Nat)(fn:Func)(args:List V)(x:Ext){α β:Type}(g:T P G (α⊕β))(res:α->V)(outs:α->List (Nat×Qi))(UX:β->List PanicEntry)(Zu:β->List (Nat×Qi)):Bool×C:=
 (fn.body.isSome&&(x.ok&&x.bs.all λp=>decide (1000000<=p.1)),sx P G kp 100000 (α⊕β) (.iX fn.results.toList res outs (λz=>.panic (UX z)) Zu) g (.inl (fn.body.getD .skip)) [] (x.D (max fn.ntmps args.length)))
theorem jV{P:Program}{G:ze}{kp:List Nat}(hm:P.follows .mixedOrders=true){f:FuncId}{fn:Func}(hf:P.funcs[f]?=some fn){args:List V}{x:Ext}(hx:x.ts=H3 args){α β:Type}{g:T P G (α⊕β)}
  {res:α->V} {outs:α->List (Nat×Qi)} {UX:β->List PanicEntry} {Zu:β->List (Nat×Qi)} (h:vQ P G kp fn args x g res outs UX Zu=(true,g.expect (.iX fn.results.toList res outs (λz=>.panic (UX z)) Zu))) :
  (∀r,g.run=some (.inl r)->QR P G f args (Qe x.bs) (res r) (Qe (outs r)))/\∀z,g.run=some (.inr z)->MP P G f args (Qe x.bs) (UX z) (Qe (Zu z)):=by
 simp only[vQ,zJ,zD,zG,zC] at h
 obtain⟨⟨h1,h2,h3⟩,h4⟩:=h
 obtain⟨c,hc⟩:=Option.isSome_iff_exists.1 h1
 rw[hc] at h4
 have e:=uX (n:=max fn.ntmps args.length) hx h3
 have key:∀q,g.run=some q->TV P G c (U3 (max fn.ntmps args.length) args (Qe x.bs)) (N8 P (.iX fn.results.toList res outs (λz=>.panic (UX z)) Zu) q (max fn.ntmps args.length)):=λq hr=>by
  have:=FN hm 100000 _ _ _ _ _ _ _ (YV h2) h4 hr
  rw[<-e];exact this
 constructor
 ·intro r hr
  refine KM hf hc rfl λγ a w hs hd=>wpIn_mono (key _ hr ⟨none,[],true⟩ γ a w hs ⟨hd,rfl,λ_ h=>by simp at h⟩) λe a' w' hl=>?_
  obtain⟨st',γ',k1,k2,k3,v0,k4,k5⟩:=hl
  exact⟨v0,k4,st',γ',k1,k2,k3,k5⟩
 ·intro z hr
  exact PR hf hc rfl λγ a w hs hd=>key _ hr ⟨none,[],true⟩ γ a w hs ⟨hd,rfl,λ_ h=>by simp at h⟩
theorem lL{P:Program}{G:ze}{kp:List Nat}(hm:P.follows .mixedOrders=true){f:FuncId}{fn:Func}(hf:P.funcs[f]?=some fn){args:List V}{x:Ext}(hx:x.ts=H3 args){ρ:Type}{g:T P G ρ}
  {res:ρ->V} {outs:ρ->List (Nat×Qi)} (h:fnC P G kp fn args x g res outs=(true,g.expect (.fn fn.results.toList res outs))):∀r,g.run=some r->QR P G f args (Qe x.bs) (res r) (Qe (outs r)):=by
 intro r hr
 simp only[fnC,zJ,zD,zG,zC] at h
 obtain⟨⟨h1,h2,h3⟩,h4⟩:=h
 obtain⟨c,hc⟩:=Option.isSome_iff_exists.1 h1
 rw[hc] at h4
 have key:TV P G c (x.D (max fn.ntmps args.length)).st (N8 P (.fn fn.results.toList res outs) r _):=FN hm 100000 _ _ _ _ _ _ _ (YV h2) h4 hr
 have e:(x.D (max fn.ntmps args.length)).st=U3 (max fn.ntmps args.length) args (Qe x.bs):=by
  unfold D.st Ext.D E6 U3
  simp only[St.mk.injEq,true_and]
  refine⟨funext λi=>?_,rfl,funext λi=>?_⟩
  ·rw[hx]
   have:=UZ args 0 i
   exact this
  ·cases hu:Qk i with
   | true=>simp
   | false=>
    simp only[Bool.or_false]
    refine Bool.eq_false_iff.2 λhc=>?_
    simp only[Ext.us,zZ,zC] at hc
    obtain⟨p,hp,rfl⟩:=zH.1 hc
    grind [Qk]
 rw[e] at key
 intro γ w as hg ho ha hbl
 have key2:∀(γ:Gh) (a:Act) (w:World),Qs G γ (U3 (max fn.ntmps args.length) args (Qe x.bs)) a.tmps w->a.defers=[]->
   CW none P c (λe a' w'=>∃v0,D8 8 (res r) v0=res r/\L0 G ⟨none,[],true⟩ γ (U3 (max fn.ntmps args.length) args (Qe x.bs)) w (NP P fn.results.toList v0 (Qe (outs r))) e a' w') a w:=λγ a w hs hd=>
  wpIn_mono (key ⟨none,[],true⟩ γ a w hs ⟨hd,rfl,λ_ h=>by simp at h⟩) λe a' w' hl=>by
   obtain⟨st',γ',k1,k2,k3,v0,k4,k5⟩:=hl
   exact⟨v0,k4,st',γ',k1,k2,k3,k5⟩
 exact KM hf hc rfl key2 γ w as hg ho ha hbl
def mR(P:Program)(G:ze)(kp:List Nat)(fn:Func)(args:List V){ρ:Type}(g:T P G ρ)(res:ρ->V):Prop:=
 fnC P G kp fn args (Ext.l .normal (H3 args) []) g res (λ_=>[])=(true,g.expect (.fn fn.results.toList res λ_=>[]))
def Spec.ofFn{P:Program}{G:ze}{kp:List Nat}(f:FuncId){fn:Func}{args:List V}{ρ:Type}{g:T P G ρ}{res:ρ->V}(hm:P.follows .mixedOrders=true)(hf:P.funcs[f]?=some fn)(k:mR P G kp fn args g res):Spec P G ρ:=
 ⟨f,args,[],g.run,res,λ_=>[],[],λ_ _ h=>by simp at h,lL hm hf rfl k⟩
def WE(P:Program)(G:ze)(kp:List Nat)(fn:Func)(args:List V)(x:Ext){ρ:Type}(g:T P G ρ)(res:ρ->V)(O:ρ->Ext):Prop:=
 fnC P G kp fn args x g res (λr=>(O r).bs)=(true,g.expect (.fn fn.results.toList res λr=>(O r).bs))
def Spec.ZR{P:Program}{G:ze}{kp:List Nat}(f:FuncId){fn:Func}{args:List V}{x:Ext}{ρ:Type}{g:T P G ρ}{res:ρ->V}{O:ρ->Ext}(dt:List Nat)(hm:P.follows .mixedOrders=true)(hf:P.funcs[f]?=some fn)(hx:x.ts=H3 args)
  (hdt:∀r,((O r).bs.all λp=>!dt.contains p.1 || (O r).dt.contains p.1)=true) (k:WE P G kp fn args x g res O):Spec P G ρ:=
 ⟨f,args,x.bs,g.run,res,λr=>(O r).bs,dt,λr p hp hd=>(O r).JC p hp (by
  grind),lL hm hf hx k⟩
def UW(P:Program)(G:ze)(kp:List Nat)(fn:Func)(args:List V)(x:Ext){α β:Type}(g:T P G (α⊕β))(res:α->V)(O:α->Ext)(UX:β->List PanicEntry)(OP:β->Ext):Prop:=
 vQ P G kp fn args x g res (λr=>(O r).bs) UX (λr=>(OP r).bs)=(true,g.expect (.iX fn.results.toList res (λr=>(O r).bs) (λz=>.panic (UX z)) λr=>(OP r).bs))
def O5.ofFn{P:Program}{G:ze}{kp:List Nat}(f:FuncId){fn:Func}{args:List V}{x:Ext}{α β:Type}{g:T P G (α⊕β)}{res:α->V}{O:α->Ext}{UX:β->List PanicEntry}{OP:β->Ext}(dt:List Nat)(hm:P.follows .mixedOrders=true)(hf:P.funcs[f]?=some fn)(hx:x.ts=H3 args)
  (hdt:∀r,((O r).bs.all λp=>!dt.contains p.1 || (O r).dt.contains p.1)=true) (hdp:∀r,((OP r).bs.all λp=>!dt.contains p.1 || (OP r).dt.contains p.1)=true) (k:UW P G kp fn args x g res O UX OP):O5 P G α β:=
 ⟨f,args,x.bs,g.run,res,λr=>(O r).bs,UX,λr=>(OP r).bs,dt,λr p hp hd=>(O r).JC p hp (by
  grind),λr p hp hd=>(OP r).JC p hp (by
  grind),(jV hm hf hx k).1,(jV hm hf hx k).2⟩
def Q0(n:Int):Int:=IntKind.i64.wrap n
def Z1(n:Int):Int:=IntKind.u64.wrap n
def I6(n:Int):Int:=IntKind.u32.wrap n
def Qm(n:Int):Int:=IntKind.u8.wrap n
def bs(l:List UInt8):za:=⟨⟨l⟩⟩
def QZ(s:za)(i:Int):Int:=(s.data.getD i.toNat 0).toNat
def U0(k:IntKind)(a b:Int):Int:=k.wrap (BitVec.ofInt k.bits a &&& BitVec.ofInt k.bits b).toNat
def Zn(k:IntKind)(a b:Int):Int:=k.wrap (BitVec.ofInt k.bits a ||| BitVec.ofInt k.bits b).toNat
def O2(k:IntKind)(a b:Int):Int:=k.wrap (BitVec.ofInt k.bits a ^^^ BitVec.ofInt k.bits b).toNat
def M3(k:IntKind)(a b:Int):Int:=k.wrap (a * 2 ^ (min b.toNat k.bits))
def Z4(k:IntKind)(a b:Int):Int:=a.fdiv (2 ^ (min b.toNat k.bits))
def yN{α:Type}(t:Ty α)(l:List α):Nat:=(l.map t.c).length
def M9{α:Type}(t:Ty α)(l:List α):Int:=(yN t l:Nat)
theorem YN{α:Type}(t:Ty α)(l:List α):M9 t l=(l.length:Int):=by simp[M9,yN]
def Yo.put{α:Type}(i z:Nat)(t:Ty α)(l:List α)(j:Nat)(y:α):Yo:=
 ⟨[.b i (some ⟨z,true,(l.map t.c).set j (t.c y)⟩)],[.b i (some ⟨z,true,(l.set j y).map t.c⟩)],by rw[List.map_set],[i],λb k h _=>by
  simp only[wm,Wr.b.injEq,zy] at h
  obtain⟨_,rfl⟩:=h
  exact t.data _⟩
theorem Qu.mT{γ:Gh}{w:World}{bs:zg}{u:zh}{l:Nat}{v:Value}(h:Qu γ w bs u (.QP l) v):v=.func (.yield l) #[] #[]:=by
 cases h with
 | data h=>cases h;rfl
theorem Qu.JH{γ γ':Gh}{w w':World}{bs bs':zg}{u u':zh}(g:Qa γ w γ' w')(hp:Zr γ bs u γ' bs' u'){c:V}{v:Value}(h:Qu γ w bs u c v):okV X1 c=true->Qu γ' w' bs' u' c v:=by
 have top:∀{b},X1 b=true->X1 b=true:=λh=>h
 induction h with
 | data h=>exact λ_=>.data (g.data h)
 | undef v=>exact λ_=>.undef v
 | ref b off len B o cap k h1 h2 h3 h4 h5 h6 h7=>
  intro ho
  simp only[okV] at ho
  obtain⟨_,_,hk⟩:=hp b (top ho)
  obtain⟨hu,hk⟩:=hk k h1
  rcases hk with hk|⟨k',hk,hs,hr,hl⟩
  ·exact .Qb b off len _ hk hu rfl
  ·rw[<-hs]
   exact .ref b off len B o cap k' hk (hl.trans h2) (by grind) h4 (g.VR (by grind)) (by grind) (by grind)
 | Jk b off B k h1 h6 h2=>
  intro ho
  simp only[okV] at ho
  obtain⟨_,_,hk⟩:=hp b (top ho)
  obtain⟨hu,hk⟩:=hk k h1
  rcases hk with hk|⟨k',hk,hs,hr,hl⟩
  ·exact .Qb b off 0 _ hk hu rfl
  ·exact .Jk b off B k' hk (by grind) ((hr h6).trans h2)
 | YW b off k h1 h6 h2=>
  intro ho
  simp only[okV] at ho
  obtain⟨_,_,hk⟩:=hp b (top ho)
  obtain⟨hu,hk⟩:=hk k h1
  rcases hk with hk|⟨k',hk,hs,hr,hl⟩
  ·exact .Qb b off 0 _ hk hu rfl
  ·exact .YW b off k' hk (by grind) ((hr h6).trans h2)
 | Qb b off len v h1 h2 h3=>
  intro ho
  simp only[okV] at ho
  obtain⟨hu,hg,_⟩:=hp b (top ho)
  exact .Qb b off len v (hg h2 h1) (hu h2) h3
 | ptr b i off B o k h1 h2 h3=>
  intro ho
  simp only[okV] at ho
  obtain⟨_,_,hk⟩:=hp b (top ho)
  obtain⟨hu,hk⟩:=hk k h1
  rcases hk with hk|⟨k',hk,hs,hr,hl⟩
  ·exact .QK b i off _ hk hu rfl
  ·rw[<-hs];exact .ptr b i off B o k' hk (hl.trans h2) (by grind)
 | mp b B k h1 h2 h3=>
  intro ho
  simp only[okV] at ho
  obtain⟨_,_,hk⟩:=hp b (top ho)
  obtain⟨hu,hk⟩:=hk k h1
  rcases hk with hk|⟨k',hk,hs,hr,hl⟩
  ·exact .QT b _ hk hu rfl
  ·exact .mp b B k' hk (hl.trans h2) (by grind)
 | QT b v h1 h2 h3=>
  intro ho
  simp only[okV] at ho
  obtain⟨hu,hg,_⟩:=hp b (top ho)
  exact .QT b v (hg h2 h1) (hu h2) h3
 | QK b i off v h1 h2 h3=>
  intro ho
  simp only[okV] at ho
  obtain⟨hu,hg,_⟩:=hp b (top ho)
  exact .QK b i off v (hg h2 h1) (hu h2) h3
 | fn f first captured fs cs h1 h2 _ _ ih1 ih2=>
  intro ho
  simp only[okV,zD] at ho
  exact .fn f first captured fs cs h1 h2 (by grind [ZV]) (by grind [ZV])
 | agg cells vs h1 _ ih=>intro ho;exact .agg cells vs h1 (by grind [ZV,okV])
 | Qt cells vs h1 _ ih=>intro ho;exact .Qt cells vs h1 (by grind [ZV,okV])
def M8(n:Nat)(t:Nat->V)(b:zg):St:=⟨n,t,b,Qk⟩
theorem Qs.resume{G:ze}{γ γ':Gh}{w w':World}{n m:Nat}{t t':Nat->V}{b b':zg}{te tm:Array Value}(h:Qs G γ (M8 n t b) te w)(ht:∀i,okV X1 (t i)=true)
  (g:Qa γ w γ' w') (hp:Zr γ b Qk γ' b' Qk) (h':Qs G γ' (M8 m t' b') tm w'):Qs G γ' (M8 n t b') te w':=
 ⟨h.n,λi=>(h.t i).JH g hp (ht i),h'.b,h'.u,h'.g,h'.o⟩
def WH(st:St)(l:List (Nat×V)):St:=l.foldl (λst p=>st.QG p.1 p.2) st
theorem Qs.WH{G:ze}{γ:Gh}{w:World}:∀{ps:List Nat} {cs:List V} {vs:List Value} {st:St} {ts:Array Value},Qs G γ st ts w->(∀p,p∈ps->p < st.n)->cs.length=ps.length->vs.length=ps.length->
  (∀(i:Nat) (c:V) (v:Value),cs[i]?=some c->vs[i]?=some v->Qu γ w st.b st.u c v)->Qs G γ (EV.WH st (ps.zip cs)) ((ps.zip vs).foldl (λt p=>t.setIfInBounds p.1 p.2) ts) w
 | [],cs,vs,st,ts,h,_,_,_,_=>by simpa[EV.WH] using h
 | p :: ps,c :: cs,v :: vs,st,ts,h,hp,h1,h2,hr=>by
  have key:Qs G γ (st.put (some p) c) ((⟨ts,[]⟩:Act).put (some p) v).tmps w:=Qs.put (a:=⟨ts,[]⟩) h (by grind [H7]) (hr 0 c v rfl rfl)
  exact Qs.WH (ps:=ps) (cs:=cs) (vs:=vs) (st:=st.QG p c) key (λq hq=>hp q (by simp[hq])) (by simpa using h1) (by simpa using h2) λi c' v' hc hv=>hr (i+1) c' v' (by simpa using hc) (by simpa using hv)
 | p :: ps,[],vs,st,ts,_,_,h1,_,_=>by simp at h1
 | p :: ps,c :: cs,[],st,ts,_,_,_,h2,_=>by simp at h2
theorem OC:∀(L:List (Nat×V)) (s:St),(WH s L).b=s.b/\(WH s L).u=s.u
 | [],_=>⟨rfl,rfl⟩
 | p :: L,s=>⟨(OC L (s.QG p.1 p.2)).1,(OC L (s.QG p.1 p.2)).2⟩
def Jr(P:Program)(G:ze)(n:Nat)(t:Nat->V)(ps:List Nat)(assign body:Code)(b:zg)(cs:List V)(R:Exit->(zg)->Prop):Prop:=
 ∃st1,TV P G assign (WH (M8 n t b) (ps.zip cs)) (λe s=>e=.normal/\QH G s st1)/\
  TV P G body st1 (λe s=>∃b' m,R e b'/\QH G s (M8 m (λ_=>.undef) b'))
def Yt:Exit->Option Code
 | .ret=>some .ret
 | .exit id=>some (.exit id)
 | _=>none
def A5(fn:FuncId)(te:Array Value)(ps:Array Tmp)(assign body:Code)(D:Nat)(e:Exit):Loop:=
 { state:=if (Yt e).isNone then .ready else .done,pending:=Yt e,fn,tmps:=te,params:=ps,assign,body,defers:=D }
structure YL where
 n:Nat
 t:Nat->V
 ps:Array Tmp
 assign:Code
 body:Code
structure Env(G:ze)(L:YL)(γ0:Gh)(w0:World)(b0:zg)(l D:Nat)(Ds:List Nat)(sz:Nat)(te:Array Value)(r:Loop)(γ:Gh)(b:zg)(u:zh)(w:World):Prop where
 Vb:Qs G γ0 (M8 L.n L.t b0) te w0
 grow:Qa γ0 w0 γ w
 JH:Zr γ0 b0 Qk γ b u
 loop:w.heap[l]?=some (.loop r)
 own:γ.own l=none
 lo:w0.heap.size<=l/\l < sz/\w0.heap.size<=sz/\sz<=w.heap.size
 dfr:∀E,E∈Ds->w.heap[E]?=some (.deferred (some []))/\γ.own E=none/\w0.heap.size<=E/\E < sz/\E≠l
def A9(sz:Nat)(γ:Gh)(w:World)(ds:List Deferred):Prop:=
 ∃Es:List Nat,ds=Es.map ZP/\Es.Nodup/\∀E,E∈Es->sz<=E/\w.heap[E]?=some (.deferred (some []))/\γ.own E=none
theorem A9.nil{sz:Nat}{γ:Gh}{w:World}:A9 sz γ w []:=⟨[],rfl,by simp,λE h=>by simp at h⟩
theorem A9.trans{sz:Nat}{γ γ':Gh}{w w':World}{ds ds':List Deferred}(h:A9 sz γ w ds)(g:Qa γ w γ' w')(k:Marks true w γ' w' ds ds')(hz:sz<=w.heap.size):A9 sz γ' w' ds':=by
 obtain⟨Es,rfl,h2,h3⟩:=h
 obtain⟨Fs,_,k1,k2,k3⟩:=k
 have lt:∀E,E∈Es->E < w.heap.size:=(by grind)
 refine⟨Fs++Es,by rw[k1];simp,List.nodup_append.2 ⟨k2,h2,λx hx y hy e=>?_⟩,λE hE=>?_⟩
 ·grind
 ·rcases wa.1 hE with hE|hE
  ·grind
  ·obtain⟨a1,a2,a3⟩:=h3 E hE
   obtain⟨b1,b2,_⟩:=g.free E (lt E hE) a3
   grind
theorem A9.grow{sz:Nat}{γ γ':Gh}{w w':World}{ds:List Deferred}(h:A9 sz γ w ds)(g:Qa γ w γ' w'):A9 sz γ' w' ds:=by
 obtain⟨Es,h1,h2,h3⟩:=h
 refine⟨Es,h1,h2,λE hE=>?_⟩
 obtain⟨a1,a2,a3⟩:=h3 E hE
 obtain⟨b1,b2,_⟩:=g.free E (by grind) a3
 grind
theorem A9.put{sz:Nat}{γ:Gh}{w:World}{ds:List Deferred}{l:Nat}{r:Loop}{o:Obj}(h:A9 sz γ w ds)(hl:w.heap[l]?=some (.loop r)):A9 sz γ (w.putObj l o) ds:=by
 obtain⟨Es,h1,h2,h3⟩:=h
 refine⟨Es,h1,h2,λE hE=>?_⟩
 grind [World.putObj_heap_other]
section
variable {P:Program} {G:ze} {L:YL} {γ0:Gh} {w0:World} {b0:zg} {l D:Nat} {Ds:List Nat} {sz:Nat} {te:Array Value} {r:Loop} {γ:Gh} {b:zg} {u:zh} {w:World}
theorem Env.step(h:Env G L γ0 w0 b0 l D Ds sz te r γ b u w){γ':Gh}{b':zg}{u':zh}{w':World}(g:Qa γ w γ' w')(hp:Zr γ b u γ' b' u'):Env G L γ0 w0 b0 l D Ds sz te r γ' b' u' w':=by
 have l1:=(wo.1 h.loop).1
 refine⟨h.Vb,h.grow.trans g,h.JH.trans hp,(g.free l l1 h.own).1.trans h.loop,(g.free l l1 h.own).2.1,⟨h.lo.1,h.lo.2.1,h.lo.2.2.1,Nat.le_trans h.lo.2.2.2 g.size⟩,λE hE=>?_⟩
 obtain⟨a1,a2,a3⟩:=h.dfr E hE
 obtain⟨b1,b2,_⟩:=g.free E (by grind) a2
 grind
theorem Env.put(h:Env G L γ0 w0 b0 l D Ds sz te r γ b u w){i:Nat}{o o':Obj}(hi:w.heap[i]?=some o)(hn:Fj o=false)(h0:w0.heap.size<=i)(hil:i≠l)(hd:∀E,E∈Ds->E≠i):Env G L γ0 w0 b0 l D Ds sz te r γ b u (w.putObj i o'):=
 ⟨h.Vb,h.grow.put hi hn h0,h.JH,(World.putObj_heap_other (Ne.symm hil)).trans h.loop,h.own,⟨h.lo.1,h.lo.2.1,h.lo.2.2.1,by rw[World.putObj_size];exact h.lo.2.2.2⟩,λE hE=>by
  obtain⟨a1,a2⟩:=h.dfr E hE
  grind [World.putObj_heap_other,trans]⟩
theorem Env.record(h:Env G L γ0 w0 b0 l D Ds sz te r γ b u w)(r':Loop):Env G L γ0 w0 b0 l D Ds sz te r' γ b u (w.putObj l (.loop r')):=
 ⟨h.Vb,h.grow.put h.loop rfl h.lo.1,h.JH,World.putObj_heap_same (wo.1 h.loop).1,h.own,⟨h.lo.1,h.lo.2.1,h.lo.2.2.1,by rw[World.putObj_size];exact h.lo.2.2.2⟩,λE hE=>by
  obtain⟨a1,a2,a3,a4,a5⟩:=h.dfr E hE
  grind [World.putObj_heap_other,trans]⟩
theorem FZ{fn:FuncId}{ni:Nat}{ti:Nat->V}{tm:Array Value}{cs:List V}{as:Array Value}{R:Exit->(zg)->Prop}{X:Ending->World->Prop}(hs:Qs G γ (M8 ni ti b) tm w)(hti:∀i,okV X1 (ti i)=true)(ht:∀i,okV X1 (L.t i)=true)(hpn:∀p,p∈L.ps.toList->p < L.n)
  (he:Env G L γ0 w0 b0 l D Ds sz te (A5 fn te L.ps L.assign L.body D .normal) γ b Qk w) (hps:cs.length=L.ps.size) (hr:Jr P G L.n L.t L.ps.toList L.assign L.body b cs R) (hR:∀e b',R e b'->e=.normal\/e=.ret\/∃id,e=.exit id)
  (ha:as.size=L.ps.size) (hcs:∀(i:Nat) (c:V) (v:Value),cs[i]?=some c->as[i]?=some v->Qu γ w b Qk c v)
  {ds:List Deferred} (hk:A9 sz γ w ds)
  (hX:∀e b' γ' w',R e b'->Env G L γ0 w0 b0 l D Ds sz te (A5 fn te L.ps L.assign L.body D e) γ' b' Qk w'->Qs G γ' (M8 ni ti b') tm w'->A9 sz γ' w' ds->(∀B,B < w.heap.size->γ.own B=none->B≠l->w'.heap[B]?=w.heap[B]?/\γ'.own B=none/\γ'.Qp B=γ.Qp B)->X (.returned (.bool (Yt e).isNone)) w') :
  RoundIn (RF none) 0 P l fn ((L.ps.zip as).foldl (λt (p,v)=>t.setIfInBounds p v) te) L.assign L.body w X:=by
 obtain⟨st1,r1,r2⟩:=hr
 have e1:(L.ps.zip as).foldl (λt (p,v)=>t.setIfInBounds p v) te=(L.ps.toList.zip as.toList).foldl (λt p=>t.setIfInBounds p.1 p.2) te:=by
  rw[<-Array.foldl_toList,Array.toList_zip]
 refine roundIn_of_wpIn trivial ?_
 rw[e1]
 have sT:Qs G γ (M8 L.n L.t b) te w:=he.Vb.resume ht he.grow he.JH hs
 have h1:Qs G γ (WH (M8 L.n L.t b) (L.ps.toList.zip cs)) ((L.ps.toList.zip as.toList).foldl (λt p=>t.setIfInBounds p.1 p.2) te) w:=
  Qs.WH sT hpn (by grind) (by simpa using ha) λi c v hc hv=>hcs i c v hc (by simpa using hv)
 have b1:=OC (L.ps.toList.zip cs) (M8 L.n L.t b)
 refine wpIn_mono (r1 ⟨some l,[],true⟩ γ ⟨_,[]⟩ w h1 ⟨rfl,rfl,λl' hl'=>by cases hl';exact⟨⟨_,he.loop⟩,he.own⟩⟩) λe a1 w1 hl=>?_
 obtain⟨s1,γ1,k1,⟨k2,k2p⟩,k3,rfl,k4⟩:=hl
 obtain⟨γ2,m1,m2,m3⟩:=k4 γ1 a1.tmps w1 k1
 have g2:=k2.trans m2
 have p2:=k2p.trans m3
 rw[b1.1,b1.2] at p2
 have hl1:w1.heap[l]?=some (.loop (A5 fn te L.ps L.assign L.body D .normal)):=(k2.free l (wo.1 he.loop).1 he.own).1.trans he.loop
 refine⟨_,run_beginRound hl1 rfl,?_⟩
 have cs1:∀o',Y2 w1 (w1.putObj l o'):=λo'=>.put hl1 rfl
 have own2:γ2.own l=none:=(g2.free l (wo.1 he.loop).1 he.own).2.1
 refine wpIn_mono (r2 ⟨some l,a1.defers,true⟩ γ2 a1 _ ((cs1 _).Gq m1) ⟨rfl,rfl,(by grind [World.putObj_heap_same,Array.getElem?_eq_some_iff])⟩) λe a2 w2 hl=>?_
 obtain⟨s2,γ3,n1,⟨n2,n2p⟩,n3,b',m,q1,q2⟩:=hl
 obtain⟨γ4,o1,o2,o3⟩:=q2 γ3 a2.tmps w2 n1
 have g4:=n2.trans o2
 have p4:=n2p.trans o3
 have eB:=he.record { A5 fn te L.ps L.assign L.body D .normal with state:=.busy }
 have csw:∀o',Y2 w (w.putObj l o'):=λo'=>.put he.loop rfl
 have gB:Qa γ (w.putObj l (.loop { A5 fn te L.ps L.assign L.body D .normal with state:=.busy })) γ2 (w1.putObj l (.loop { A5 fn te L.ps L.assign L.body D .normal with state:=.busy })):=by
  refine⟨g2.os,g2.tape,g2.output,by simpa using g2.size,λB o v hB hc=>?_,λB hB=>g2.Qp B (by simpa using hB),λB hB hn=>?_,λB cs e fz hc=>?_⟩
  ·have hne:B≠l:=λe=>by
    subst e
    obtain⟨c1,c2,c3,hb⟩:=Ut hc
    rw[World.putObj_heap_same (wo.1 he.loop).1] at hb;cases hb
   refine(cs1 _).cell (g2.NS B o v hB ?_)
   grind [World.putObj_heap_other,cellAt,World.cell?]
  ·rw[World.putObj_size] at hB
   obtain⟨a1,a2,a3⟩:=g2.free B hB hn
   grind [World.putObj_heap_same,Array.getElem?_eq_some_iff,World.putObj_heap_other]
  ·have hne:B≠l:=λe'=>by
    subst e'
    rw[World.putObj_heap_same (wo.1 he.loop).1] at hc;cases hc
   rw[World.putObj_heap_other hne] at hc
   obtain⟨cs',fz',c1,c2⟩:=g2.room B cs e fz hc
   grind [World.putObj_heap_other]
 have gT:=gB.trans g4
 have pT:Zr γ b Qk γ4 b' Qk:=p2.trans p4
 have sI:Qs G γ4 (M8 ni ti b') tm w2:=((csw _).Gq hs).resume hti gT pT o1
 have f1:=eB.step gT pT
 have hl2:=f1.loop
 have mk2:A9 sz γ4 w2 ds:=(hk.put he.loop).grow gT
 have fin:∀(e:Exit),R e b'->(Instr.endRound l (Yt e)).run P w2=.ok (.bool (Yt e).isNone) (w2.putObj l (.loop (A5 fn te L.ps L.assign L.body D e)))/\X (.returned (.bool (Yt e).isNone)) (w2.putObj l (.loop (A5 fn te L.ps L.assign L.body D e))):=λe hRe=>
  ⟨run_endRound (P:=P) (Yt e) hl2,hX e b' γ4 _ hRe (f1.record _) ((Y2.put hl2 rfl).Gq sI) (mk2.put hl2) λB hB hn hne=>by
   obtain⟨q1,q2,q3⟩:=gT.free B (by simpa using hB) hn
   grind [World.putObj_heap_other,trans]⟩
 rcases hR e b' q1 with rfl|rfl|⟨id,rfl⟩
 ·exact⟨_,_,fin .normal q1⟩
 ·exact⟨_,_,fin .ret q1⟩
 ·exact⟨_,_,fin (.exit id) q1⟩
theorem TW{fn:FuncId}{o:Oper}{x:Operand}{xs:Array Operand}{ts:Array TypeId}{ni:Nat}{ti:Nat->V}{a:Act}{cs:List V}{R:Exit->(zg)->Prop}{nx:Act->World->Prop}{Q:Exit->Act->World->Prop}
  (ho:o.op=.call { callee:=.value x,args:=xs,argTypes:=ts }) (hx:(M8 ni ti b).ev G x=some (.QP l)) (hcs:iL ((M8 ni ti b).ev G) xs.toList=some cs)
  (hs:Qs G γ (M8 ni ti b) a.tmps w) (hti:∀i,okV X1 (ti i)=true) (ht:∀i,okV X1 (L.t i)=true) (hpn:∀p,p∈L.ps.toList->p < L.n)
  (he:Env G L γ0 w0 b0 l D Ds sz te (A5 fn te L.ps L.assign L.body D .normal) γ b Qk w) (hps:cs.length=L.ps.size) (hr:Jr P G L.n L.t L.ps.toList L.assign L.body b cs R) (hR:∀e b',R e b'->e=.normal\/e=.ret\/∃id,e=.exit id)
  (hk:A9 sz γ w a.defers) (hX:∀e b' γ' w',R e b'->Env G L γ0 w0 b0 l D Ds sz te (A5 fn te L.ps L.assign L.body D e) γ' b' Qk w'->Qs G γ' (M8 ni ti b') a.tmps w'->A9 sz γ' w' a.defers->(∀B,B < w.heap.size->γ.own B=none->B≠l->w'.heap[B]?=w.heap[B]?/\γ'.own B=none/\γ'.Qp B=γ.Qp B)->nx (a.put o.dst (.bool (Yt e).isNone)) w') :
  o.wpIn (RF none) 0 P a w nx Q:=by
 refine⟨λ_ _=>trivial,?_⟩
 have hv:=(hs.ev hx).mT
 have e : (execOp a.eval o) = (do let d <- Deferred.ofValue (a.eval x) (xs.map a.eval); invoke d.target d.args) := by
  unfold execOp;rw[ho];rfl
 have hm:=Wt hs hcs
 have k:(xs.toList.map a.eval).toArray=xs.map a.eval:=(by grind)
 rw[k] at hm
 have hsz:(xs.map a.eval).size=L.ps.size:=hm.1.trans hps
 have hrun:(execOp a.eval o).run P w=.ok (.round l fn ((L.ps.zip (xs.map a.eval)).foldl (λt (p,v)=>t.setIfInBounds p v) te) L.assign L.body) w:=by
  rw[e,hv]
  have : (do let d <- Deferred.ofValue (.func (.yield l) #[] #[]) (xs.map a.eval); invoke d.target d.args : Sem Next) = Instr.yield l (xs.map a.eval) := by
   simp[Deferred.ofValue,invoke]
  rw[this]
  exact run_yield he.loop hsz
 show o.uponIn _ _ _ _ _ _ (((o.semAt none a.eval)).run P w)
 rw[Oper.semAt_none,hrun,Oper.uponIn_round]
 refine⟨(by grind [RF,Fence.wide]),?_⟩
 exact FZ hs hti ht hpn he hps hr hR hsz (λi c v hc hv=>hm.2 i c v hc hv) hk (by grind)
end
def OQ(P:Program)(G:ze)(c:Code)(m:Nat)(args:Nat->List V)(bi:zg)(L:YL)(R Rp:Exit->(zg)->Prop):Prop:=
 ∀(fn:FuncId) (γ0:Gh) (w0:World) (b0:zg) (l D:Nat) (Ds:List Nat) (sz:Nat) (te:Array Value) (γ:Gh) (a:Act) (w:World),
  Env G L γ0 w0 b0 l D Ds sz te (A5 fn te L.ps L.assign L.body D .normal) γ bi Qk w->Qs G γ (U3 m (args l) bi) a.tmps w->a.defers=[]->
  CW none P c (λe a' w'=>∃e2 b' γ' ni ti tm,((e=.normal\/e=.ret)/\R e2 b'\/(∃ch,e=.panic ch)/\Rp e b')/\Env G L γ0 w0 b0 l D Ds sz te (A5 fn te L.ps L.assign L.body D e2) γ' b' Qk w'/\Qs G γ' (M8 ni ti b') tm w'/\A9 sz γ' w' a'.defers) a w
abbrev Uj(P:Program)(G:ze)(c:Code)(m:Nat)(args:Nat->List V)(bi:zg)(L:YL)(R:Exit->(zg)->Prop):Prop:=OQ P G c m args bi L R λ_ _=>False
theorem heap_alloc(w:World)(o:Obj)(B:Nat)(hB:B < w.heap.size):(w.alloc o).heap[B]?=w.heap[B]?:=by
 show (w.heap.push o)[B]?=_
 grind
theorem Qa.alloc(γ:Gh)(w:World)(o:Obj):Qa γ w γ (w.alloc o)/\Y2 w (w.alloc o):=by
 have cs:Y2 w (w.alloc o):=⟨by simp,(by grind [Array.getElem?_eq_some_iff,heap_alloc,trans]),(by grind [Array.getElem?_eq_some_iff,heap_alloc,trans])⟩
 exact⟨(Qa.refl γ w).same cs (by grind [heap_alloc]) rfl rfl rfl,cs⟩
section
variable {P:Program} {G:ze}
theorem CC{L:YL}(fn:FuncId){fx:Fx}{γ:Gh}{st:St}{a:Act}{w:World}(hs:Qs G γ st a.tmps w)(hx:Uu fx γ a.defers w) :
  ∃(l D:Nat) (Ds:List Nat) (w1:World),(Instr.enterLoop fn a.tmps L.ps L.assign L.body fx.ro).run P w=.ok (l,Ds.map ZP) w1/\Ds.Nodup/\w1.heap[l]?=some (.loop (A5 fn a.tmps L.ps L.assign L.body D .normal))/\
   (Qa γ w γ w1/\Y2 w w1)/\γ.own l=none/\(w.heap.size<=l/\l < w1.heap.size)/\∀E,E∈Ds->w1.heap[E]?=some (.deferred (some []))/\γ.own E=none/\w.heap.size<=E/\E < w1.heap.size/\E≠l:=by
 have hnone:∀B,w.heap.size<=B->γ.own B=none:=λB hB=>by
  cases ho:γ.own B with
  | none=>rfl
  | some x=>have:=hs.o B x ho;omega
 cases hro:fx.ro with
 | none=>
  have hL:((w.alloc (.deferred (some []))).alloc (.loop (A5 fn a.tmps L.ps L.assign L.body w.heap.size .normal))).heap[w.heap.size+1]?=some (.loop (A5 fn a.tmps L.ps L.assign L.body w.heap.size .normal)):=by
   grind [World.alloc_heap_new,World.size_alloc,A5]
  have hD:((w.alloc (.deferred (some []))).alloc (.loop (A5 fn a.tmps L.ps L.assign L.body w.heap.size .normal))).heap[w.heap.size]?=some (.deferred (some [])):=
   (heap_alloc _ _ _ (by simp)).trans (World.alloc_heap_new w _)
  obtain⟨x1,x2⟩:=Qa.alloc γ w (.deferred (some []))
  obtain⟨y1,y2⟩:=Qa.alloc γ (w.alloc (.deferred (some []))) (.loop (A5 fn a.tmps L.ps L.assign L.body w.heap.size .normal))
  refine⟨w.heap.size+1,w.heap.size,[w.heap.size],_,run_enterLoop_outer _ _ _ _ _,by simp,hL,⟨x1.trans y1,x2.trans y2⟩,hnone _ (by omega),⟨by omega,(wo.1 hL).1⟩,λE hE=>?_⟩
  simp only[wm] at hE
  subst hE
  exact⟨hD,hnone _ (zI _),zI _,(wo.1 hD).1,by omega⟩
 | some l0=>
  obtain⟨⟨r0,h0⟩,_⟩:=hx.2.2 l0 hro
  have hL:=World.alloc_heap_new w (.loop (A5 fn a.tmps L.ps L.assign L.body r0.defers .normal))
  exact⟨w.heap.size,r0.defers,[],_,run_enterLoop_inner h0 _ _ _ _ _,by simp,hL,Qa.alloc γ w _,hnone _ (zI _),⟨zI _,(wo.1 hL).1⟩,λE hE=>by simp at hE⟩
end
structure YS where
 x:Exit
 st:St
def kN(G:ze)(L:YL)(l:Nat)(fn:FuncId)(γ0:Gh)(w0:World)(b0:zg)(D:Nat)(Ds:List Nat)(sz:Nat)(te:Array Value)(Q:Exit->YS->Prop)(e:Exit)(a':Act)(w':World):Prop:=
 ∃s' γ',A9 sz γ' w' a'.defers/\Env G L γ0 w0 b0 l D Ds sz te (A5 fn te L.ps L.assign L.body D s'.x) γ' s'.st.b s'.st.u w'/\Qs G γ' s'.st a'.tmps w'/\Q e s'
def YT(P:Program)(G:ze)(L:YL)(l:Nat)(c:Code)(s:YS)(Q:Exit->YS->Prop):Prop:=
 ∀(fn:FuncId) (γ0:Gh) (w0:World) (b0:zg) (D:Nat) (Ds:List Nat) (sz:Nat) (te:Array Value) (γ:Gh) (a:Act) (w:World),
  Env G L γ0 w0 b0 l D Ds sz te (A5 fn te L.ps L.assign L.body D s.x) γ s.st.b s.st.u w->Qs G γ s.st a.tmps w->A9 sz γ w a.defers->
  CW none P c (kN G L l fn γ0 w0 b0 D Ds sz te Q) a w
def oN(next:YS->Prop)(Q:Exit->YS->Prop):Exit->YS->Prop
 | .normal,s=>next s
 | e,s=>Q e s
def GV(id:Nat)(Q:Exit->YS->Prop):Exit->YS->Prop
 | .exit id',s=>if id'=id then Q .normal s else Q (.exit id') s
 | e,s=>Q e s
section
variable {P:Program} {G:ze} {L:YL} {l:Nat} {s:YS} {Q:Exit->YS->Prop}
theorem YT.mono{c:Code}{Q':Exit->YS->Prop}(h:YT P G L l c s Q)(hq:∀e s,Q e s->Q' e s):YT P G L l c s Q':=λfn γ0 w0 b0 D Ds sz te γ a w he hs hd=>
 wpIn_mono (h fn γ0 w0 b0 D Ds sz te γ a w he hs hd) λ_ _ _ ⟨s',γ',h1,h2,h3,h4⟩=>⟨s',γ',h1,h2,h3,hq _ _ h4⟩
theorem YT.tv{c:Code}{Q1:Exit->St->Prop}(h:TV P G c s.st Q1)(hq:∀e st,Q1 e st->Q e ⟨s.x,st⟩):YT P G L l c s Q:=λfn γ0 w0 b0 D Ds sz te γ a w he hs hd=>
 wpIn_mono (h ⟨none,a.defers,true⟩ γ a w hs (Uu.free γ w)) λe a' w' hl=>by
  obtain⟨st',γ',h1,⟨h2,h2p⟩,h3,h4⟩:=hl
  exact⟨⟨s.x,st'⟩,γ',hd.trans h2 h3 he.lo.2.2.2,he.step h2 h2p,h1,hq e st' h4⟩
theorem YT.seq{x y:Code}(h:YT P G L l x s (oN (λs=>YT P G L l y s Q) Q)):YT P G L l (.seq x y) s Q:=λfn γ0 w0 b0 D Ds sz te γ a w he hs hd=>by
 refine wpIn_seq (wpIn_mono (h fn γ0 w0 b0 D Ds sz te γ a w he hs hd) λe a' w' hl=>?_)
 obtain⟨s',γ',h1,h2,h3,h4⟩:=hl
 cases e with
 | normal=>exact h4 fn γ0 w0 b0 D Ds sz te γ' a' w' h2 h3 h1
 | _=>exact⟨s',γ',h1,h2,h3,h4⟩
theorem YT.cond{o:Operand}{x y:Code}{b:Bool}(hc:s.st.ev G o=some (.bool b))(h:YT P G L l (if b then x else y) s Q):YT P G L l (.cond o x y) s Q:=λfn γ0 w0 b0 D Ds sz te γ a w he hs hd=>
 wpIn_cond ((hs.ev hc).QF) (h fn γ0 w0 b0 D Ds sz te γ a w he hs hd)
theorem YT.block{id:Nat}{c:Code}(h:YT P G L l c s (GV id Q)):YT P G L l (.block id c) s Q:=λfn γ0 w0 b0 D Ds sz te γ a w he hs hd=>by
 refine wpIn_block (wpIn_mono (h fn γ0 w0 b0 D Ds sz te γ a w he hs hd) λe a' w' hl=>?_)
 obtain⟨s',γ',h1,h2,h3,h4⟩:=hl
 cases e with
 | exit id'=>
  simp only[GV] at h4
  simp only[Exit.inBlock]
  split
  ·rename_i he;rw[if_pos he] at h4;exact⟨s',γ',h1,h2,h3,h4⟩
  ·rename_i he;rw[if_neg he] at h4;exact⟨s',γ',h1,h2,h3,h4⟩
 | _=>exact⟨s',γ',h1,h2,h3,h4⟩
theorem YT.skip(h:Q .normal s):YT P G L l .skip s Q:=λ_ _ _ _ _ _ _ _ γ _ _ he hs hd=>wpIn_skip ⟨s,γ,hd,he,hs,h⟩
theorem YT.exit{id:Nat}(h:Q (.exit id) s):YT P G L l (.exit id) s Q:=λ_ _ _ _ _ _ _ _ γ _ _ he hs hd=>wpIn_exit ⟨s,γ,hd,he,hs,h⟩
theorem YT.loop{c:Code}(I:Nat->YS->Prop)(round:∀n s,I n s->YT P G L l c s (oN (λs'=>∃m,m < n/\I m s') Q)){n:Nat}(h:I n s):YT P G L l (.loop c) s Q:=λfn γ0 w0 b0 D Ds sz te γ a w he hs hd=>by
 refine Ni (λn a' w'=>kN G L l fn γ0 w0 b0 D Ds sz te (λ_ s=>I n s) .normal a' w') (λn a' w' hI=>?_) n a w ⟨s,γ,hd,he,hs,h⟩
 obtain⟨s',γ',h1,h2,h3,h4⟩:=hI
 refine wpIn_mono (round n s' h4 fn γ0 w0 b0 D Ds sz te γ' a' w' h2 h3 h1) λe a2 w2 hl=>?_
 obtain⟨s2,γ2,k1,k2,k3,k4⟩:=hl
 cases e with
 | normal=>obtain⟨m,hm,hI⟩:=k4;exact⟨m,hm,s2,γ2,k1,k2,k3,hI⟩
 | _=>exact⟨s2,γ2,k1,k2,k3,k4⟩
theorem YT.DB{c:Code}{x:Exit}{st st':St}(g:QH G st st')(h:YT P G L l c ⟨x,st'⟩ Q):YT P G L l c ⟨x,st⟩ Q:=λfn γ0 w0 b0 D Ds sz te γ a w he hs hd=>by
 obtain⟨γ',h1,h2,h3⟩:=g γ a.tmps w hs
 exact h fn γ0 w0 b0 D Ds sz te γ' a w (he.step h2 h3) h1 (hd.grow h2)
def J2(P:Program)(G:ze)(L:YL)(l:Nat)(ops:Array Oper)(is:List Nat)(s:YS)(Q:Exit->YS->Prop):Prop:=
 ∀(fn:FuncId) (γ0:Gh) (w0:World) (b0:zg) (D:Nat) (Ds:List Nat) (sz:Nat) (te:Array Value) (γ:Gh) (a:Act) (w:World),
  Env G L γ0 w0 b0 l D Ds sz te (A5 fn te L.ps L.assign L.body D s.x) γ s.st.b s.st.u w->Qs G γ s.st a.tmps w->A9 sz γ w a.defers->
  wpOpsIn (RF none) 0 P ops (kN G L l fn γ0 w0 b0 D Ds sz te Q) is a w
theorem YT.region{id:Nat}{ops:Array Oper}(h:J2 P G L l ops (List.range ops.size) s Q):YT P G L l (.region id ops false) s Q:=λfn γ0 w0 b0 D Ds sz te γ a w he hs hd=>wpIn_region (h fn γ0 w0 b0 D Ds sz te γ a w he hs hd)
theorem J2.nil{ops:Array Oper}(h:Q .normal s):J2 P G L l ops [] s Q:=λ_ _ _ _ _ _ _ _ γ _ _ he hs hd=>⟨s,γ,hd,he,hs,h⟩
theorem J2.DB{ops:Array Oper}{is:List Nat}{x:Exit}{st st':St}(g:QH G st st')(h:J2 P G L l ops is ⟨x,st'⟩ Q):J2 P G L l ops is ⟨x,st⟩ Q:=λfn γ0 w0 b0 D Ds sz te γ a w he hs hd=>by
 obtain⟨γ',h1,h2,h3⟩:=g γ a.tmps w hs
 exact h fn γ0 w0 b0 D Ds sz te γ' a w (he.step h2 h3) h1 (hd.grow h2)
theorem Hq{F:Fence}{n:Nat}{ops:Array Oper}{Q:Exit->Act->World->Prop}(js:List Nat):∀(is:List Nat) (a:Act) (w:World),wpOpsIn F n P ops (λe a w=>e=.normal/\wpOpsIn F n P ops Q js a w) is a w->wpOpsIn F n P ops Q (is++js) a w
 | [],a,w,h=>h.2
 | i :: is,a,w,h=>by
  have ih:=Hq (F:=F) (n:=n) (ops:=ops) (Q:=Q) js is
  simp only[wpOpsIn,List.cons_append] at h ⊢
  split
  ·grind
  ·rename_i o hi
   rw[hi] at h
   simp only at h ⊢
   split
   ·rename_i hw
    rw[if_pos hw] at h
    refine⟨h.1,?_⟩
    have h:=h.2
    unfold Oper.uponIn at h ⊢
    split at h
    ·exact ih _ _ h
    ·exact ih _ _ h
    ·exact ih _ _ h
    ·refine⟨h.1,CallsIn.mono h.2 λe w' hr=>?_⟩
     cases e with
     | returned v=>grind
     | panicked ch=>grind
     | outgrown=>obtain⟨a0,w0,h2⟩:=hr;grind
    ·grind [RowsIn.mono]
    ·refine⟨h.1,RoundIn.mono h.2 λe w' hr=>?_⟩
     cases e with
     | returned v=>grind
     | panicked ch=>grind
     | outgrown=>obtain⟨a0,w0,h2⟩:=hr;grind
    ·grind
    grind
   grind
theorem J2.tv{ops:Array Oper}{is js:List Nat}{Q1:Exit->St->Prop}(h:U6 P G ops is s.st Q1)(hq:∀e st,Q1 e st->e=.normal/\J2 P G L l ops js ⟨s.x,st⟩ Q):J2 P G L l ops (is++js) s Q:=λfn γ0 w0 b0 D Ds sz te γ a w he hs hd=>by
 refine Hq js is a w (H1 (λe a' w' hl=>?_) is a w (h ⟨none,a.defers,true⟩ γ a w hs (Uu.free γ w)))
 obtain⟨st',γ',h1,⟨h2,h2p⟩,h3,h4⟩:=hl
 obtain⟨rfl,h5⟩:=hq e st' h4
 exact⟨rfl,h5 fn γ0 w0 b0 D Ds sz te γ' a' w' (he.step h2 h2p) h1 (hd.trans h2 h3 he.lo.2.2.2)⟩
theorem J2.step{ops:Array Oper}{i:Nat}{is:List Nat}{st':St}(h:stepG P G ops i s.st=some st')(hr:J2 P G L l ops is ⟨s.x,st'⟩ Q):J2 P G L l ops (i :: is) s Q:=
 J2.tv (is:=[i]) (js:=is) (Q1:=λe st=>e=.normal/\st=st') (U6.cons (C6 h) (U6.nil ⟨rfl,rfl⟩)) (by grind)
theorem OQ.of{c:Code}{m:Nat}{args:Nat->List V}{bi:zg}{R Rp:Exit->(zg)->Prop}
  (h:∀l,YT P G L l c ⟨.normal,U3 m (args l) bi⟩ (λe s=>∃ni ti b',QH G s.st (M8 ni ti b')/\((e=.normal\/e=.ret)/\R s.x b'\/(∃ch,e=.panic ch)/\Rp e b'))):OQ P G c m args bi L R Rp:=λfn γ0 w0 b0 l D Ds sz te γ a w he hs hd=>
 wpIn_mono (h l fn γ0 w0 b0 D Ds sz te γ a w he hs (by rw[hd];exact A9.nil)) λe a' w' hl=>by
  obtain⟨s',γ',h1,h2,h3,ni,ti,b',h5,h6⟩:=hl
  obtain⟨γ2,k1,k2,k3⟩:=h5 γ' a'.tmps w' h3
  exact⟨s'.x,b',γ2,ni,ti,a'.tmps,h6,h2.step k2 k3,k1,h1.grow k2⟩
theorem Uj.of{c:Code}{m:Nat}{args:Nat->List V}{bi:zg}{R:Exit->(zg)->Prop}
  (h:∀l,YT P G L l c ⟨.normal,U3 m (args l) bi⟩ (λe s=>(e=.normal\/e=.ret)/\∃ni ti b',QH G s.st (M8 ni ti b')/\R s.x b')):Uj P G c m args bi L R:=
 OQ.of λl=>(h l).mono (by grind)
end
def Y1(P:Program)(G:ze)(kp:List Nat)(n:Nat)(c:Code)(x:Ext){ρ:Type}(g:T P G ρ)(E:ρ->Ext):Prop:=
 (x.ok,sx P G kp 100000 ρ (.LW E) g (.inl c) [] (x.D n))=(true,g.expect (.LW E))
theorem Y1.tv{P:Program}{G:ze}{kp:List Nat}{n:Nat}{c:Code}{x:Ext}{ρ:Type}{g:T P G ρ}{E:ρ->Ext}(h:Y1 P G kp n c x g E)(hm:P.follows .mixedOrders=true){r:ρ}(hr:g.run=some r)(hE:(E r).ok=true) :
  TV P G c (x.D n).st (λe s=>e=(E r).ex/\QH G s ((E r).D n).st):=by
 simp only[Y1,zJ] at h
 have key:TV P G c (x.D n).st (N8 P (.LW E) r n):=FN hm 100000 _ _ _ _ _ _ _ (YV h.1) h.2 hr
 refine key.mono λe s hg=>?_
 obtain⟨g1,g2,g3,g4⟩:=hg
 grind [T4]
theorem U6.lW{P:Program}{G:ze}{ops:Array Oper}{Q:Exit->St->Prop}{p:Y4}{st:St}{m:Nat}(h:∀i,i < m->X4 P G ops i (U9 p st i) (p.rs i) (p.ws i))(hq:Q .normal (U9 p st m)) :
  ∀n k,k+n=m->U6 P G ops (List.range' k n) (U9 p st k) Q
 | 0,k,hk=>by
  grind [U6.nil]
 | n+1,k,hk=>by
  rw[List.range'_succ]
  exact U6.cons (h k (by omega) _ rfl (λl _=>O0.refl _ l)) (U6.lW h hq n (k+1) (by omega))
theorem U6.rel{P:Program}{G:ze}{ops:Array Oper}{l:List Nat}{st:St}{Q Q':Exit->St->Prop}(h:U6 P G ops l st Q')(hq:∀e s,Q' e s->Rel P G Q e s):U6 P G ops l st Q:=λfx γ a w hs hd=>
 H1 (λe a' w' hl=>by
  obtain⟨st',γ',h1,h2,h3,h4⟩:=hl
  exact(hq e st' h4 ⟨fx.ro,a'.defers,fx.mx⟩ γ' a' w' h1 rfl).Ow h2 h3) l a w (h fx γ a w hs hd)
def W5(P:Program)(G:ze)(kp:List Nat)(n id:Nat)(ops:Array Oper)(m:Nat)(x:Ext){ρ:Type}(g:T P G ρ)(E:ρ->Ext):Prop:=
 (x.ok,rg P G id ops (List.range' 0 m) g (x.D n).st [] (x.D n).sy (λg s p sy=>XM kp (x.D n) s p sy λd'=>sx P G kp 100 ρ (.LW E) g (.inr .normal) [] d') λ_ _ _ _ _=>.stuck 79)=(true,g.expect (.LW E))
theorem W5.tv{P:Program}{G:ze}{kp:List Nat}{n id:Nat}{ops:Array Oper}{m:Nat}{x:Ext}{ρ:Type}{g:T P G ρ}{E:ρ->Ext}(h:W5 P G kp n id ops m x g E)(hm:P.follows .mixedOrders=true){r:ρ}(hr:g.run=some r)(hE:(E r).ok=true) :
  U6 P G ops (List.range' 0 m) (x.D n).st (λe s=>e=(E r).ex/\QH G s ((E r).D n).st):=by
 simp only[W5,zJ] at h
 have hd:=YV (n:=n) h.1
 rcases XU (st0:=(x.D n).st) m g (x.D n).st [] (x.D n).sy h.2 hr ⟨rfl,λj hj=>by simp at hj⟩ hd.sy with⟨g',s,p,sy',x1,x2,x3,x4,x5⟩|⟨_,_,_,_,_,_,_,x1,_⟩
 rotate_left
 ·exact absurd x1 (Z6 _ _ _)
 simp only[List.length_nil,zP] at x5
 have hs:s=U9 p (x.D n).st m:=by rw[<-x5];exact x3.1
 obtain⟨d',y1,y2,y3,y4⟩:=Hp x1 (λj=>Z6 _ g' j) hd hs x4
 have hq:Rel P G (N8 P (.LW E) r d'.n) .normal d'.st:=FN hm 100 _ _ _ _ _ _ _ y2 y1 x2
 rw[y4] at hq
 have key:=U6.lW (Q:=λe s'=>e=.normal/\s'=s) (m:=m) (λi hi=>x3.2 i (by omega)) ⟨rfl,hs.symm⟩ m 0 (by omega)
 refine U6.rel key λe s' he=>?_
 obtain⟨rfl,rfl⟩:=he
 refine(hq.forget y3).mono λs2 hg=>?_
 obtain⟨g1,g2,g3,g4⟩:=hg
 have f:=T4 (G:=G) (s:=s2) hE g3 g4
 rw[show s2.n=n from g2] at f
 grind
def Zm(ts:List (Nat×V))(i:Nat):V:=match ts.find? (λp=>p.1==i) with|some p=>p.2|none=>.undef
theorem H6{x:Ext}(h:(x.bs.all λp=>decide (1000000<=p.1))=true)(n:Nat):(x.D n).st=M8 n (Zm x.ts) (Qe x.bs):=by
 have hu:(λi=>x.us.contains i || Qk i)=Qk:=funext λi=>by
  cases hu:Qk i with
  | true=>simp
  | false=>
   simp only[Bool.or_false]
   refine Bool.eq_false_iff.2 λhc=>?_
   simp only[Ext.us,zZ,zC] at hc
   obtain⟨p,hp,rfl⟩:=zH.1 hc
   grind [List.all_eq_true,Qk]
 show (⟨n,Zm x.ts,Qe x.bs,λi=>x.us.contains i || Qk i⟩:St)=⟨n,Zm x.ts,Qe x.bs,Qk⟩
 rw[hu]
theorem O8{u:zh}{ts:List (Nat×V)}(h:(ts.all λp=>okV u p.2)=true)(i:Nat):okV u (Zm ts i)=true:=by
 unfold Zm
 cases hf:ts.find? (λp=>p.1==i) with
 | none=>rfl
 | some p=>grind
theorem JY(n:Nat)(ts:List (Nat×V))(b:zg)(p:Nat)(c:V):WH (M8 n (Zm ts) b) [(p,c)]=M8 n (Zm ((p,c) :: ts)) b:=by
 unfold WH M8 Zm
 simp only[List.foldl,St.QG,St.mk.injEq,true_and,and_true]
 grind
theorem R8{args:List V}{x:Ext}(hx:x.ts=H3 args)(hb:(x.bs.all λp=>decide (1000000<=p.1))=true)(n:Nat):(x.D n).st=U3 n args (Qe x.bs):=by
 rw[H6 hb,hx]
 unfold M8 U3
 simp only[St.mk.injEq,true_and,and_true]
 exact funext λi=>UZ args 0 i
theorem NQ{P:Program}{G:ze}{f:FuncId}{fn:Func}{c:Code}{n:Nat}{args:List V}{ins:zg}{res:V}{outs:zg}
  (hf:P.funcs[f]?=some fn) (hb:fn.body=some c) (hn:n=max fn.ntmps args.length) (hc:D8 8 res res=res) (h:TV P G c (U3 n args ins) (NP P fn.results.toList res outs)):QR P G f args ins res outs:=
 KM hf hb hn λγ a w hs hd=>wpIn_mono (h ⟨none,[],true⟩ γ a w hs ⟨hd,rfl,λ_ h=>by simp at h⟩) (by grind)
theorem YT.piece{P:Program}{G:ze}{L:YL}{l:Nat}{kp:List Nat}{n:Nat}{c:Code}{x:Ext}{ρ:Type}{g:T P G ρ}{E:ρ->Ext}{y:Exit}{Q:Exit->YS->Prop}
  (h:Y1 P G kp n c x g E) (hm:P.follows .mixedOrders=true) {r:ρ} (hr:g.run=some r) (hE:(E r).ok=true) (hq:∀s,QH G s ((E r).D n).st->Q (E r).ex ⟨y,s⟩):YT P G L l c ⟨y,(x.D n).st⟩ Q:=
 YT.tv (h.tv hm hr hE) (by grind)
def sh(b:Nat):Nat:=1000000+b
def un(b:Nat):Nat:=(b / 1000000 - 1) * 1000000+b % 1000000
theorem Jv(b:Nat):un (sh b)=b:=by unfold un sh;omega
theorem lQ{b:Nat}(h:1000000<=b):sh (un b)=b:=by unfold un sh;omega
theorem WL(b:Nat):1000000<=sh b:=by unfold sh;omega
attribute [irreducible] sh un
theorem Sn{b:Nat}(h:1000000<=b):Qk b=true:=by unfold Qk;grind
theorem OI(b:Nat):Qk (sh b)=true:=Sn (WL b)
mutual
theorem IG(s:Nat->Nat):∀c:V,W2 (H8 s c)=(W2 c).map s
 | .ref b o l=>rfl
 | .ptr b i o=>rfl
 | .mp b=>rfl
 | .fn f a c=>by simp only[H8,W2,wE];rw[Yd s a,Yd s c]
 | .agg l=>by simp only[H8,W2];exact Yd s l
 | .Qt l=>by simp only[H8,W2];exact Yd s l
 | .int _ _=>rfl
 | .bool _=>rfl
 | .str _=>rfl
 | .Zf=>rfl
 | .Zd=>rfl
 | .QP _=>rfl
 | .Qj=>rfl
 | .Zw _=>rfl
 | .sl _ _ _=>rfl
 | .snap _=>rfl
 | .undef=>rfl
theorem Yd(s:Nat->Nat):∀l:List V,E5 (N4 s l)=(E5 l).map s
 | []=>rfl
 | c :: l=>by simp only[N4,E5,wE];rw[IG s c,Yd s l]
end
mutual
theorem IF(s r:Nat->Nat)(h:∀b,s (r b)=b):∀c:V,H8 s (H8 r c)=c
 | .ref b o l=>by simp[H8,h]
 | .ptr b i o=>by simp[H8,h]
 | .mp b=>by simp[H8,h]
 | .fn f a c=>by simp only[H8];rw[Ye s r h a,Ye s r h c]
 | .agg l=>by simp only[H8];rw[Ye s r h l]
 | .Qt l=>by simp only[H8];rw[Ye s r h l]
 | .int _ _=>rfl
 | .bool _=>rfl
 | .str _=>rfl
 | .Zf=>rfl
 | .Zd=>rfl
 | .QP _=>rfl
 | .Qj=>rfl
 | .Zw _=>rfl
 | .sl _ _ _=>rfl
 | .snap _=>rfl
 | .undef=>rfl
theorem Ye(s r:Nat->Nat)(h:∀b,s (r b)=b):∀l:List V,N4 s (N4 r l)=l
 | []=>rfl
 | c :: l=>by simp only[N4];rw[IF s r h c,Ye s r h l]
end
theorem Qi.VT(s r:Nat->Nat)(h:∀b,s (r b)=b)(k:Qi):(k.Qc r).Qc s=k:=by
 obtain⟨z,e,rows⟩:=k
 simp only[Qi.Qc,wJ]
 congr 1
 have:(N4 s ∘ N4 r)=id:=funext λl=>Ye s r h l
 simp_all
def Zz(b:zg)(i:Nat):Option Qi:=if 1000000<=i then (b (un i)).map (Qi.Qc sh) else none
theorem P3(b:zg)(i:Nat):Zz b (sh i)=(b i).map (Qi.Qc sh):=by
 unfold Zz
 rw[if_pos (WL _),Jv]
def St.shift(st:St):St:=M8 st.n (λi=>H8 sh (st.t i)) (Zz st.b)
def K7.sh:K7->K7
 | .ZQ b=>.ZQ (EV.sh b)
 | .nest b i j=>.nest (EV.sh b) i j
def Gh.shift(γ:Gh):Gh where
 loc:=λi=>if 1000000<=i then γ.loc (un i) else none
 own:=λB=>(γ.own B).map K7.sh
 Qp:=γ.Qp
theorem Qs.shift{G:ze}{γ:Gh}{st:St}{tmps:Array Value}{w:World}(hs:Qs G γ st tmps w):Qs G γ.shift st.shift tmps w:=by
 have loc:∀b,γ.shift.loc (sh b)=γ.loc b:=λb=>by simp only[Gh.shift];rw[if_pos (WL _),Jv]
 have tr:∀b,Tr γ st.b st.u γ.shift (Zz st.b) Qk sh b:=λb=>by
  refine⟨λk hk=>⟨k.Qc sh,by rw[P3,hk];rfl,rfl,by simp[Qi.Qc],loc b⟩,(by grind [P3,OI])⟩
 refine⟨hs.n,λi=>Qu.Qc (γ1:=γ) (γ2:=γ.shift) (w:=w) (w':=w) (bs1:=st.b) (u1:=st.u) (bs2:=Zz st.b) (u2:=Qk) (s:=sh) (λB o v h1 h2=>⟨h1,h2⟩) (λ_ _ h=>h) (hs.t i) (λb _=>tr b),λb k hk=>?_,λb k hk=>?_,hs.g,λB x hx=>?_⟩
 ·have hk':Zz st.b b=some k:=hk
  unfold Zz at hk'
  split at hk'
  ·rename_i hb
   obtain⟨k0,h0,rfl⟩:=zE.1 hk'
   have:=(hs.b _ _ h0).Qc (γ2:=γ.shift) (bs2:=Zz st.b) (u2:=Qk) (s:=sh) (loc _) (λ_=>rfl) (λB hB=>by simp only[Gh.shift,hB];rfl) (λB i j hB=>by simp only[Gh.shift,hB];rfl) (λb' _=>tr b')
   rw[lQ hb] at this
   exact this
  ·simp at hk'
 ·have hk':Zz st.b b=some k:=hk
  unfold Zz at hk'
  split at hk'
  ·rename_i hb;exact Sn hb
  ·simp at hk'
 ·simp only[Gh.shift] at hx
  obtain⟨y,hy,_⟩:=zE.1 hx
  exact hs.o B y hy
def K7.un:K7->Option K7
 | .ZQ b=>if 1000000<=b then some (.ZQ (EV.un b)) else none
 | .nest b i j=>if 1000000<=b then some (.nest (EV.un b) i j) else none
def Gh.Ql(γ:Gh):Gh where
 loc:=λi=>γ.loc (sh i)
 own:=λB=>(γ.own B).bind K7.un
 Qp:=γ.Qp
structure St.known(st:St):Prop where
 t:∀i,∀b,b∈W2 (st.t i)->st.u b=true
 b:∀i k,st.b i=some k->st.u i=true/\∀b,b∈E5 k.rows.flatten->st.u b=true
theorem Qs.Ql{G:ze}{γ:Gh}{st:St}{tmps:Array Value}{w:World}(hs:Qs G γ st.shift tmps w)(hk:st.known):Qs G γ.Ql st tmps w:=by
 have tr:∀b0,st.u b0=true->Tr γ (Zz st.b) Qk γ.Ql st.b st.u un (sh b0):=λb0 hu=>by
  rw[Tr,Jv,P3]
  refine⟨λk h=>?_,λh _=>⟨by simpa using h,hu⟩⟩
  obtain⟨k0,h0,rfl⟩:=zE.1 h
  exact⟨k0,h0,rfl,by simp[Qi.Qc],rfl⟩
 have ownB:∀B b0,γ.own B=some (.ZQ (sh b0))->γ.Ql.own B=some (.ZQ b0):=λB b0 h=>by
  simp_all [wL,if_pos,WL,Jv,Gh.Ql,K7.un]
 have ownN:∀B b0 i j,γ.own B=some (.nest (sh b0) i j)->γ.Ql.own B=some (.nest b0 i j):=λB b0 i j h=>by
  simp_all [wL,if_pos,WL,Jv,Gh.Ql,K7.un]
 refine⟨hs.n,λi=>?_,λb k hb=>?_,λb k hb=>(hk.b b k hb).1,hs.g,λB x hx=>?_⟩
 ·have h0:Qu γ w (Zz st.b) Qk (H8 sh (st.t i)) (tmps.getD i undef):=hs.t i
  have h1:=Qu.Qc (γ1:=γ) (γ2:=γ.Ql) (w:=w) (w':=w) (bs1:=Zz st.b) (u1:=Qk) (bs2:=st.b) (u2:=st.u) (s:=un) (λB o v h1 h2=>⟨h1,h2⟩) (λ_ _ h=>h) h0 (λb hb=>by
   rw[IG] at hb
   obtain⟨b0,hb0,rfl⟩:=zH.1 hb
   exact tr b0 (hk.t i b0 hb0))
  grind [IF,Jv,un,sh]
 ·have hsb:Zz st.b (sh b)=some (k.Qc sh):=by rw[P3,hb];rfl
  have h0:D4 γ w (Zz st.b) Qk (sh b) (k.Qc sh):=hs.b (sh b) _ hsb
  have h1:=h0.Qc (γ2:=γ.Ql) (bs2:=st.b) (u2:=st.u) (s:=un) (by show γ.loc (sh (un (sh b)))=_;rw[Jv]) (λ_=>rfl) (by grind [Jv]) (by grind [Jv])
   (λb' hb'=>by
    have:E5 (k.Qc sh).rows.flatten=(E5 k.rows.flatten).map sh:=by
     show E5 ((k.rows.map (N4 sh)).flatten)=_
     rw[YD,Yd]
    rw[this] at hb'
    obtain⟨b0,hb0,rfl⟩:=zH.1 hb'
    exact tr b0 ((hk.b b k hb).2 b0 hb0))
  grind [Jv,Qi.VT,un,sh]
 ·simp only[Gh.Ql] at hx
  obtain⟨y,hy,_⟩:=zV.1 hx
  exact hs.o B y hy
theorem L0.Ql{G:ze}{fx:Fx}{γ:Gh}{st:St}{w:World}{Q:Exit->St->Prop}{e:Exit}{a:Act}{w':World}
  (h:L0 G fx γ.shift st.shift w (λe s=>∃s',s=s'.shift/\s'.u=st.u/\s'.known/\Q e s') e a w') (hsu:∀b k,st.b b=some k->st.u b=true):L0 G fx γ st w Q e a w':=by
 obtain⟨_,γ1,h1,⟨h2,h3⟩,⟨Ds,m0,m1,m2,m3⟩,s',rfl,hu,hk,hq⟩:=h
 have none1:∀B,γ1.own B=none->γ1.Ql.own B=none:=(by grind [Gh.Ql])
 refine⟨s',γ1.Ql,h1.Ql hk,⟨⟨h2.os,h2.tape,h2.output,h2.size,h2.NS,h2.Qp,λB hB hn=>?_,h2.room⟩,λb hb=>?_⟩,⟨Ds,m0,m1,m2,(by grind)⟩,hq⟩
 ·obtain⟨a1,a2,a3⟩:=h2.free B hB (by grind [Gh.shift])
  exact⟨a1,none1 B a2,a3⟩
 ·obtain⟨p1,p2,p3⟩:=h3 (sh b) (by simp_all [zD,zC,WL,X1,sh])
  refine⟨(by grind),λh hn=>?_,λk hk'=>⟨?_,?_⟩⟩
  ·have:=p2 (OI b) (by show Zz st.b (sh b)=none;rw[P3,hn];rfl)
   have h0:Zz s'.b (sh b)=none:=this
   simp_all [P3]
  ·grind
  ·obtain⟨_,q⟩:=p3 (k.Qc sh) (by show Zz st.b (sh b)=_;rw[P3,hk'];rfl)
   rcases q with q|⟨k',q1,q2,q3,q4⟩
   ·have h0:Zz s'.b (sh b)=none:=q
    simp_all [P3]
   ·have h0:Zz s'.b (sh b)=some k':=q1
    rw[P3] at h0
    obtain⟨k0,h00,rfl⟩:=zE.1 h0
    refine .inr ⟨k0,h00,q2,by simpa[Qi.Qc] using q3,?_⟩
    have q4:γ1.loc (sh b)=γ.shift.loc (sh b):=q4
    simp only[Gh.shift] at q4
    rw[if_pos (WL _),Jv] at q4
    exact q4
theorem XT(p:Nat×Qi)(l:List (Nat×Qi))(i:Nat):Qe (p :: l) i=if p.1=i then some p.2 else Qe l i:=by
 unfold Qe
 grind
theorem Ue:∀l:List (Nat×Qi),Zz (Qe l)=Qe (l.map λp=>(sh p.1,p.2.Qc sh))
 | []=>funext λi=>by simp_all [Zz,Qe]
 | p :: l=>funext λi=>by
  have ih:=congrFun (Ue l) i
  rw[wj,XT]
  unfold Zz at ih ⊢
  rw[XT]
  by_cases h:sh p.1=i
  ·subst h
   rw[if_pos rfl,if_pos (WL _),Jv,if_pos rfl];rfl
  ·rw[if_neg h]
   by_cases hi:1000000<=i
   ·rw[if_pos hi] at ih ⊢
    have:¬p.1=un i:=(by grind [lQ])
    grind
   grind
theorem Vz(p:Nat×V)(l:List (Nat×V))(i:Nat):Zm (p :: l) i=if p.1=i then p.2 else Zm l i:=by
 unfold Zm
 grind
theorem C4:∀l:List (Nat×V),(λi=>H8 sh (Zm l i))=Zm (l.map λp=>(p.1,H8 sh p.2))
 | []=>rfl
 | p :: l=>funext λi=>by
  have ih:=congrFun (C4 l) i
  grind [Vz]
theorem JN(x:Ext)(n:Nat):(x.D n).st.shift=M8 n (Zm (x.ts.map λp=>(p.1,H8 sh p.2))) (Qe (x.bs.map λp=>(sh p.1,p.2.Qc sh))):=by
 rw[<-C4,<-Ue]
 rfl
end Go.EV
namespace Go.EV
open Go
theorem U6.Qhj{P:Program}{G:ze}{ops:Array Oper}{st:St}{Q:Exit->St->Prop}{i:Nat}{rest:List Nat}{o:Oper}{d:Nat}{t:TypeId}{x y:Operand}{b:TypeId}{own:Bool}{z:Nat}{rows:List (List V)}
  (hi:ops[i]?=some o) (hg:M6 ops st o=some true) (ho:o.op=.binOp .eql t x y b) (hd:o.dst=some d) (hdn:H7 st.n (some d)=true) (ht:B3 P t=true) (hx:st.ev G x=some (.sl own z rows)) (hy:st.ev G y=some .Qj)
  (h1:rows=[]->U6 P G ops rest (st.put (some d) (.bool true)) Q) (h2:U6 P G ops rest (st.put (some d) (.bool false)) Q):U6 P G ops (i :: rest) st Q:=λfx γ a w hs hdf=>by
 simp only[wpOpsIn]
 rw[hi]
 simp only
 rw[if_pos (W3 hs hg)]
 have key:∀r:Bool,(execOp a.eval o).run P w=.ok (.value (.bool r)) w->U6 P G ops rest (st.put (some d) (.bool r)) Q->o.wpIn (RF fx.ro) 0 P a w (λa' w'=>wpOpsIn (RF fx.ro) 0 P ops (L0 G fx γ st w Q) rest a' w') (L0 G fx γ st w Q):=λr hr hT=>by
  have hw:∀{next:Act->World->Prop} {Q':Exit->Act->World->Prop},next (a.put o.dst (.bool r)) w->o.wp P a w next Q':=λh=>by
   unfold Oper.wp;rw[hr];exact h
  refine IN (hw (D6 _ _ _)) (hw ?_)
  rw[hd]
  have:=hT fx γ (a.put (some d) (.bool r)) w (hs.put hdn (.data (.bool r))) (by rw[D6];exact hdf)
  exact H1 (λe a2 w2 hl=>hl.grow (st:=st) ⟨.refl γ w,Zr.refl hs.u⟩) rest _ w this
 have ev : execOp a.eval o = (do let v <- (do eqGuard .eql t x y (a.eval x) (a.eval y); binOp .eql t (a.eval x) (a.eval y)); pure (.value v)) := by simp only [execOp, ho]
 have yv:=(hs.ev hy).QI
 obtain⟨e,hu⟩:∃e,P.underlying t=some (.slice e):=by grind [B3]
 rcases(hs.ev hx).Hi with⟨a0,xv,hr⟩|⟨B,o',cap,vs,xv,-,-,-,-⟩
 ·cases a0 with
  | some a0=>
   refine key false ?_ h2
   rw[ev,xv,yv,zM]
   have:=(E7 (P:=P) (w:=w) (t:=t) (x:=.slice (some a0) 0 0) (y:=.slice none 0 0) (r:=false) x y (λop=>by cases op<;>simp[eqGuard]) (λd=>by simp[Op.equalIn,zF hu]) rfl rfl).1
   rw[this];rfl
  | none=>
  refine key true ?_ (h1 hr)
  rw[ev,xv,yv,zM]
  have:=(E7 (P:=P) (w:=w) (t:=t) (x:=.slice none 0 0) (y:=.slice none 0 0) (r:=true) x y (λop=>by cases op<;>simp[eqGuard]) (λd=>by simp[Op.equalIn,zF hu]) rfl rfl).1
  rw[this];rfl
 ·refine key false ?_ h2
  rw[ev,xv,yv,zM]
  have:=(E7 (P:=P) (w:=w) (t:=t) (x:=.slice (some ⟨B,o',none⟩) rows.length cap) (y:=.slice none 0 0) (r:=false) x y (λop=>by cases op<;>simp[eqGuard]) (λd=>by simp[Op.equalIn,zF hu]) rfl rfl).1
  rw[this];rfl
theorem Om{st:St}{n:Nat}{ts:List (Nat×V)}(hn:st.n=n)(_:∀b,1000000<=b->st.u b=true)(ht:∀p,p∈ts->st.t p.1=p.2/\okV Qk p.2=true):F9 st ((Ext.l .normal ts []).D n).st where
 n:=hn.symm
 t:=λi=>by
  show (match ts.find? (λp=>p.1==i) with|some p=>p.2|none=>.undef)=_\/_
  cases hf:ts.find? (λp=>p.1==i) with
  | none=>exact .inl rfl
  | some p=>
   obtain⟨h1,h2⟩:=N1 hf
   obtain⟨h3,h4⟩:=ht p h1
   subst h2
   refine .inr ⟨?_,F4 (u:=Qk) (λb hb=>?_) _ (by grind)⟩
   ·show (match ts.find? (λq=>q.1==p.1) with|some p=>p.2|none=>.undef)=_
    grind
   ·rw[D.Qqf];exact Md (of_decide_eq_true hb)
 b:=λ_=>.inl rfl
 p:=λb hb=>by rw[D.Qqf];exact Md (Uw hb)
def LN(ops:Array Oper):Option TypeId:=match ops[1]? with
 | some o=>match o.op,o.dst,o.guard with
  | .binOp .eql t (.tmp 3) (.const (.slice none 0 0)) _,some 4,none=>some t
  | _,_,_=>none
 | none=>none
theorem LG{ops:Array Oper}{t:TypeId}(h:LN ops=some t):∃(o:Oper) (tb:TypeId),ops[1]?=some o/\o.op=.binOp .eql t (.tmp 3) (.const (.slice none 0 0)) tb/\o.dst=some 4/\o.guard=none:=by
 grind [Option.some.injEq,LN]
def Oo:Option Code->Array Oper
 | some (.seq (.region _ o _) _)=>o
 | _=>#[]
def Oi:Option Code->Array Oper
 | some (.seq _ (.seq (.seq (.region _ o _) _) _))=>o
 | _=>#[]
def MM:Option Code->Code
 | some (.seq _ (.seq (.seq _ (.cond _ c _)) _))=>c
 | _=>.skip
def WQ:Option Code->Code
 | some (.seq _ (.seq _ c))=>c
 | _=>.skip
theorem Ng{P:Program}{G:ze}{f:FuncId}{fn:Func}{yes rest:Code}{ops0 ops1:Array Oper}{t:TypeId}{z:Nat}{α:Type}{ty:Ty α}{l:List α}{kp:List Nat}{ρ:Type}{g:T P G ρ}{r:ρ}{hx:([].all λ(p:Nat×Qi)=>!([BT.of 7 ty z ([]++l)].any λx=>x.id==p.1))=true}
  (hm:P.follows .mixedOrders=true) (hM:z < Y8) (hf:P.funcs[f]?=some fn) (hb:fn.body=some (.seq (.region 0 ops0 false) (.seq (.seq (.region 1 ops1 false) (.cond (.tmp 4) yes .skip)) rest)))
  (hn:8=max fn.ntmps 1) (hr:fn.results.toList=[.tmp 2]) (z0:ops0.size=1) (z1:ops1.size=2)
  (h0:stepG P G ops0 0 (U3 8 [.sl false z (l.map ty.c)] λ_=>none)=some ((U3 8 [.sl false z (l.map ty.c)] λ_=>none).put (some 2) .Qj))
  (h1:stepG P G ops1 0 ((U3 8 [.sl false z (l.map ty.c)] λ_=>none).put (some 2) .Qj)=some (((U3 8 [.sl false z (l.map ty.c)] λ_=>none).put (some 2) .Qj).put (some 3) (.sl false z (l.map ty.c))))
  (hq:LN ops1=some t) (ht:B3 P t=true)
  (kY:Y1 P G [2] 8 yes (Ext.l .normal [(2,.Qj)] []) (.done ():T P G Unit) (λ_=>Ext.l .ret [(2,.Qj)] []))
  (kR:Y1 P G kp 8 rest (Ext.l .normal [(0,.sl false z (l.map ty.c)),(2,.Qj)] []) g (λ_=>Ext.of .ret [(2,.ref 7 0 ([]++l).length)] [] [BT.of 7 ty z ([]++l)] hx))
  (hE:(Ext.of .ret [(2,.ref 7 0 ([]++l).length)] [] [BT.of 7 ty z ([]++l)] hx).ok=true) (hrun:g.run=some r) :
  QR P G f [.sl false z (l.map ty.c)] (Qe []) (.ref 7 0 ([]++l).length) (Qe [(7,⟨z,true,([]++l).map ty.c⟩)]):=by
 obtain⟨o,tb,hi,ho,hd,hg⟩:=LG hq
 refine NQ (n:=8) hf hb hn (by rfl) ?_
 rw[hr]
 have e0:Qe []=(λ_=>none:zg):=rfl
 rw[e0]
 refine TV.seq (TV.region ?_)
 rw[z0]
 refine U6.cons (C6 h0) (U6.nil ?_)
 show TV P G _ _ _
 refine TV.seq (TV.seq (TV.region ?_))
 rw[z1]
 refine U6.cons (C6 h1) ?_
 refine U6.Qhj (rows:=l.map ty.c) (own:=false) (z:=z) hi (by unfold M6;rw[hg]) ho hd rfl ht rfl rfl (λhnil=>U6.nil ?_) (U6.nil ?_)
 ·
  have hl:l=[]:=List.map_eq_nil_iff.1 hnil
  subst hl
  show TV P G _ _ _
  refine TV.cond (t:=true) rfl ?_
  refine TV.ghost (QH.forget (Om (n:=8) (ts:=[(2,.Qj)]) rfl (λb hb=>by simp[U3,St.put,St.QG,Qk,hb]) (λp hp=>?_))) ?_
  ·simp only[wm] at hp;subst hp;exact⟨rfl,rfl⟩
  refine TV.rel (kY.tv hm (r:=()) rfl rfl) λe s he=>?_
  obtain⟨rfl,hs⟩:=he
  refine Rel.ghost hs (Rel.ghost (QH.oL (d:=7) (t:=2) z hM rfl rfl) (Rel.of ?_))
  show NP P _ _ _ _ _
  refine⟨.inr rfl,rfl,λb k hk=>?_⟩
  simp only[Qe,List.find?] at hk
  split at hk
  ·rename_i x hx'
   split at hx'
   ·rename_i hb'
    simp only[zy] at hx' hk
    subst hx';subst hk
    have:(7:Nat)=b:=by grind
    subst this;rfl
   ·simp at hx'
  ·simp at hk
 ·show TV P G _ _ _
  refine TV.cond (t:=false) rfl (TV.skip ?_)
  show TV P G _ _ _
  refine TV.ghost (QH.forget (Om (n:=8) (ts:=[(0,.sl false z (l.map ty.c)),(2,.Qj)]) rfl (λb hb=>by simp[U3,St.put,St.QG,Qk,hb]) (λp hp=>?_))) ?_
  ·simp only[zO,zT,or_false] at hp
   rcases hp with rfl|rfl
   ·exact⟨rfl,rfl⟩
   ·exact⟨rfl,rfl⟩
  refine TV.rel (kR.tv hm hrun hE) λe s he=>?_
  obtain⟨rfl,hs⟩:=he
  refine Rel.ghost hs (Rel.of ?_)
  show NP P _ _ _ _ _
  refine⟨.inr rfl,rfl,λb k hk=>?_⟩
  exact hk
def A7(agg:Bool)(l:List V):V:=match agg with
 | true=>.agg l
 | false=>l.headD .undef
def G4(P:Program)(t:TypeId)(xs ys:List V):Option Bool:=
 match P.underlying t with
 | some (.int _)=>match xs,ys with
  | [.int k a],[.int k' b]=>if k=k' then some (a==b) else none
  | _,_=>none
 | some .string=>match xs,ys with
  | [.str a],[.str b]=>some (decide (a=b))
  | _,_=>none
 | some (.struct _)=>Us P t xs ys
 | some (.array _ _)=>KH P t xs ys
 | _=>none
theorem Oh{P:Program}{t:TypeId}{k:IntKind}(hu:P.underlying t=some (.int k)){xs ys:List V}{q:Bool}(h:G4 P t xs ys=some q):∃k1 a b,xs=[.int k1 a]/\ys=[.int k1 b]/\q=(a==b):=by
 unfold G4 at h
 grind
theorem Ou{P:Program}{t:TypeId}(hu:P.underlying t=some .string){xs ys:List V}{q:Bool}(h:G4 P t xs ys=some q):∃a b,xs=[.str a]/\ys=[.str b]/\q=decide (a=b):=by
 unfold G4 at h
 grind
def M0(P:Program)(t:TypeId):Bool:=match P.underlying t with
 | some (.struct _)=>true
 | some (.array _ _)=>true
 | _=>false
theorem EC{P:Program}{t:TypeId}(h:M0 P t=true):(∃fs,P.underlying t=some (.struct fs))\/∃n e,P.underlying t=some (.array n e):=by
 grind [M0]
theorem PZ{P:Program}{t:TypeId}{xs ys:List V}{q:Bool}(h:G4 P t xs ys=some q):(∃k,P.underlying t=some (.int k))\/P.underlying t=some .string\/M0 P t=true:=by
 unfold G4 at h
 grind [M0]
theorem Iu{P:Program}{γ:Gh}{w:World}{bs:zg}{u:zh}{t:TypeId}{xs ys:List V}{r:Bool}(h:Us P t xs ys=some r)
  {x y:Value} (hx:Qu γ w bs u (.agg xs) x) (hy:Qu γ w bs u (.agg ys) y):(Op.equal t x y).run P w=.ok r w:=by
 unfold Us at h
 split at h
 ·rename_i fs hu
  split at h
  ·rename_i hc
   simp only[zD,wc] at hc
   obtain⟨⟨hf,hp⟩,hg⟩:=hc
   obtain⟨vx,rfl,lx,cx⟩:=hx.QX
   obtain⟨vy,rfl,ly,cy⟩:=hy.QX
   have hfo:P.fieldsOf t=fs:=by simp[Program.fieldsOf,hu]
   show (Op.equalIn 10000 t (.agg vx.toArray) (.agg vy.toArray)).run P w=.ok r w
   rw[show (10000:Nat)=9999+1 from rfl,run_equalIn_struct w 9999 t _ _ (by rw[hfo];exact hu) hp,hfo]
   refine Ud (γ:=γ) (bs:=bs) (u:=u) 100 9999 _ _ fs.toList 0 xs ys r (by omega) hf h ?_ ?_
   ·intro i c hc
    obtain⟨hlt,_⟩:=wh.1 hc
    have hv:vx[i]?=some (vx[i]'(by omega)):=(by grind)
    grind
   ·intro i c hc
    obtain⟨hlt,_⟩:=wh.1 hc
    have hv:vy[i]?=some (vy[i]'(by omega)):=(by grind)
    grind
  ·simp at h
 ·simp at h
theorem Ij{P:Program}{γ:Gh}{w:World}{bs:zg}{u:zh}{t:TypeId}{xs ys:List V}{r:Bool}(ha:M0 P t=true)(h:G4 P t xs ys=some r)
  {x y:Value} (hx:Qu γ w bs u (.agg xs) x) (hy:Qu γ w bs u (.agg ys) y):(Op.equal t x y).run P w=.ok r w:=by
 unfold G4 at h
 grind [EC,Iu,WA]
theorem Jw{P:Program}{γ:Gh}{w:World}{bs:zg}{u:zh}(em:Bool) :
  ∀(n e:Nat) (xs:Array Value) (fs:List Field) (j:Nat) (cs:List V),n<=e->K1 P n fs j cs=true->(∀(i:Nat) (c:V),cs[i]?=some c->∃v,xs[j+i]?=some v/\Qu γ w bs u c v)->
   (forIn fs PUnit.unit (λf _ => if f.name ≠ "_" then (do
     let c <-part f.type xs f.offset
     Instr.checkKey em e f.type c
     pure (ForInStep.yield PUnit.unit)) else pure (ForInStep.yield PUnit.unit)):Sem PUnit).run P w=.ok PUnit.unit w
 | 0,_,_,_,_,_,_,hf,_=>by simp[K1] at hf
 | n+1,0,_,_,_,_,hn,_,_=>by omega
 | n+1,e+1,xs,[],j,cs,hn,hf,hx=>by simp
 | n+1,e+1,xs,f :: fs,j,cs,hn,hf,hx=>by
  simp only[K1,zD,beq_iff_eq,bne_iff_ne,ne_eq] at hf
  obtain⟨⟨ho,hname⟩,hk⟩:=hf
  have shift:∀(m:Nat) (i:Nat) (c:V),(cs.drop m)[i]?=some c->∃v,xs[j+m+i]?=some v/\Qu γ w bs u c v:=(by grind)
  have fin:∀(m:Nat) (x:Value),K1 P n fs (j+m) (cs.drop m)=true->(part f.type xs f.offset).run P w=.ok x w->(Instr.checkKey em (e+1) f.type x).run P w=.ok () w->
    (forIn (f :: fs) PUnit.unit (λf _ => if f.name ≠ "_" then (do
     let c <-part f.type xs f.offset
     Instr.checkKey em (e+1) f.type c
     pure (ForInStep.yield PUnit.unit)) else pure (ForInStep.yield PUnit.unit)):Sem PUnit).run P w=.ok PUnit.unit w:=by
   intro m x h1 h2 h3
   have ih:=Jw em n (e+1) xs fs (j+m) (cs.drop m) (by omega) h1 (shift m)
   simp_all
  have part1:∀{d:TypeDesc} (z:Value),P.underlying f.type=some d->(∀q,d≠.struct q)->(∀p q,d≠.array p q)->xs[j]?=some z->(part f.type xs f.offset).run P w=.ok z w:=by
   intro d z hu h1 h2 hz
   cases d<;>first|exact absurd rfl (h1 _)|exact absurd rfl (h2 _ _)|simp[part,W1 hu,ho,hz]
  split at hk
  ·rename_i gs hu
   split at hk
   rotate_left
   ·simp at hk
   rename_i i hi
   simp only[zD,wc,zC] at hk
   obtain⟨⟨⟨_,hlen⟩,hin⟩,hrest⟩:=hk
   have px:(part f.type xs f.offset).run P w=.ok (.agg (xs.extract j (j+i.size))) w:=by simp[part,W1 hu,sizeOf,typeInfo,hi,ho]
   refine fin i.size _ hrest px ?_
   have inner:=Jw (γ:=γ) (w:=w) (bs:=bs) (u:=u) em n e (xs.extract j (j+i.size)) gs.toList 0 (cs.take i.size) (by omega) hin (by grind)
   rw[Instr.checkKey]
   simp_all [zM,zF,zN,Array.forIn_toList,wi]
  ·rename_i ik hu
   split at hk
   rotate_left
   ·simp at hk
   rename_i k a cs
   obtain⟨x,h0,hxr⟩:=hx 0 _ rfl
   have:=hxr.Qf;subst this
   exact fin 1 _ hk (part1 _ hu (by simp) (by simp) h0) (by simp[Instr.checkKey,zF hu])
  ·rename_i hu
   split at hk
   rotate_left
   ·simp at hk
   obtain⟨x,h0,hxr⟩:=hx 0 _ rfl
   exact fin 1 _ hk (part1 _ hu (by simp) (by simp) h0) (by simp[Instr.checkKey,zF hu])
  ·rename_i hu
   split at hk
   rotate_left
   ·simp at hk
   obtain⟨x,h0,hxr⟩:=hx 0 _ rfl
   exact fin 1 _ hk (part1 _ hu (by simp) (by simp) h0) (by simp[Instr.checkKey,zF hu])
  ·simp at hk
section
variable {P:Program} {γ:Gh} {w:World} {bs:zg} {u:zh}
theorem Iw{t:TypeId}{xs:List V}(h:(G4 P t xs xs).isSome=true){v:Value}(hr:Qu γ w bs u (A7 (M0 P t) xs) v)(em:Bool):(Instr.checkKey em 10000 t v).run P w=.ok () w:=by
 obtain⟨q,h⟩:=Option.isSome_iff_exists.1 h
 unfold G4 at h
 split at h
 ·rename_i k hu
  have ha:M0 P t=false:=by simp[M0,hu]
  rw[ha] at hr
  split at h
  ·have:=Qu.Qf (hr:Qu γ w bs u (.int _ _) v);subst this
   exact(λn=>by simp[Instr.checkKey,zF hu]:∀n,(Instr.checkKey em (n+1) t _).run P w=.ok () w) 9999
  ·simp at h
 ·rename_i hu
  have ha:M0 P t=false:=by simp[M0,hu]
  rw[ha] at hr
  split at h
  ·have:=Qu.QW (hr:Qu γ w bs u (.str _) v);subst this
   exact(λn=>by simp[Instr.checkKey,zF hu]:∀n,(Instr.checkKey em (n+1) t _).run P w=.ok () w) 9999
  ·simp at h
 ·rename_i fs hu
  have ha:M0 P t=true:=by simp[M0,hu]
  rw[ha] at hr
  obtain⟨vs,rfl,lx,cx⟩:=(hr:Qu γ w bs u (.agg xs) v).QX
  unfold Us at h
  rw[hu] at h
  simp only at h
  split at h
  ·rename_i hc
   simp only[zD,wc] at hc
   rw[show (10000:Nat)=9999+1 from rfl,Instr.checkKey]
   simp only[zM,zF hu,zN]
   rw[<-Array.forIn_toList]
   have key:=Jw (γ:=γ) (w:=w) (bs:=bs) (u:=u) em 100 9999 vs.toArray fs.toList 0 xs (by omega) hc.1.1 λi c hc=>by
    have hlt:=(wh.1 hc).1
    have hv:vs[i]?=some (vs[i]'(by omega)):=(by grind)
    grind
   simp_all
  ·simp at h
 ·rename_i n e hu
  have ha:M0 P t=true:=by simp[M0,hu]
  rw[ha] at hr
  obtain⟨vs,rfl,lx,cx⟩:=(hr:Qu γ w bs u (.agg xs) v).QX
  unfold KH at h
  rw[hu] at h
  simp only at h
  split at h
  ·rename_i hc
   simp only[zD,wc,zC] at hc
   obtain⟨⟨⟨⟨hn,hf⟩,h1⟩,hi⟩,hg⟩:=hc
   obtain⟨i,hi⟩:=Option.isSome_iff_exists.1 hi
   rw[show (10000:Nat)=9998+1+1 from rfl,Instr.checkKey]
   simp only[zM,zF hu,zN]
   simp only[Std.Legacy.Range.forIn_eq_forIn_range',Std.Legacy.Range.size,Nat.sub_zero,Nat.add_one_sub_one,Nat.div_one]
   have key:=Hn (P:=P) (w:=w) em 9998 e vs.toArray hi h1 xs 0 hf (by simp[lx])
   grind [Result.andThen_ok,Sem.run_pure]
  ·simp at h
 ·simp at h
def Yj:List Bool->List MapEntry->Nat->Option (Nat×Value)
 | q :: qs,e :: es,i=>match q with
  | true=>some (i,e.val)
  | false=>Yj qs es (i+1)
 | _,_,_=>none
theorem Dz{α:Type}(p:α->Bool):∀(l:List α) (es:List MapEntry) (i:Nat),es.length=l.length->
  Yj (l.map p) es i=match l.findIdx? p with|some j=>(es[j]?).map λe=>(i+j,e.val)|none=>none
 | [],[],i,_=>rfl
 | [],e :: es,i,h=>by simp at h
 | x :: l,[],i,h=>by simp at h
 | x :: l,e :: es,i,h=>by
  simp only[wj,Yj,List.findIdx?_cons]
  cases hp:p x with
  | true=>simp
  | false=>
   simp only[Bool.false_eq_true,if_false]
   rw[Dz p l es (i+1) (by simpa using h)]
   grind
theorem Lh{t:TypeId}{xs:List V}{kv:Value}(hk:Qu γ w bs u (A7 (M0 P t) xs) kv)(es:List MapEntry)(qs:List Bool)
  (hl:qs.length=es.length) (h:∀(j:Nat) (e:MapEntry),es[j]?=some e->∃q ys,qs[j]?=some q/\G4 P t xs ys=some q/\Qu γ w bs u (A7 (M0 P t) ys) e.key) (hs:(G4 P t xs xs).isSome=true) :
  (Instr.findKey t kv es).run P w=.ok (Yj qs es 0) w:=by
 obtain⟨q0,hs⟩:=Option.isSome_iff_exists.1 hs
 have now:∀d,P.underlying t=some d->(∀(j:Nat) (e:MapEntry),es[j]?=some e->∃q,qs[j]?=some q/\Instr.sameNow d kv e.key=some q)->(Instr.findKey t kv es).run P w=.ok (Yj qs es 0) w:=λd hu hq=>by
  refine MapKept.run_findKey hu ?_
  have gen:∀(es:List MapEntry) (qs:List Bool) (i:Nat),qs.length=es.length->(∀(j:Nat) (e:MapEntry),es[j]?=some e->∃q,qs[j]?=some q/\Instr.sameNow d kv e.key=some q)->Instr.findNow d kv es i=some (Yj qs es i):=by
   intro es
   induction es with
   | nil=>intro qs i hl _;cases qs with|nil=>rfl|cons=>simp at hl
   | cons e es ih=>
    intro qs i hl hq
    cases qs with
    | nil=>simp at hl
    | cons q qs=>
     obtain⟨q',h1,h2⟩:=hq 0 e rfl
     simp only[wU,zy] at h1
     subst h1
     simp only[Instr.findNow,h2,Yj]
     cases q with
     | true=>rfl
     | false=>exact ih qs (i+1) (by simpa using hl) λj e' he=>by simpa using hq (j+1) e' (by simpa using he)
  grind
 rcases PZ hs with⟨k,hu⟩|hu|ha
 ·have ha:M0 P t=false:=by simp[M0,hu]
  rw[ha] at hk
  obtain⟨k1,a,_,rfl,_⟩:=Oh hu hs
  have:=Qu.Qf (hk:Qu γ w bs u (.int k1 a) kv);subst this
  refine now _ hu λj e he=>?_
  obtain⟨q,ys,h1,h2,h3⟩:=h j e he
  refine⟨q,h1,?_⟩
  obtain⟨k2,a2,b2,e1,rfl,rfl⟩:=Oh hu h2
  simp only[List.cons.injEq,V.int.injEq,and_true] at e1
  obtain⟨rfl,rfl⟩:=e1
  rw[ha] at h3
  rw[Qu.Qf (h3:Qu γ w bs u (.int k1 b2) e.key)]
  simp[Instr.sameNow]
 ·have ha:M0 P t=false:=by simp[M0,hu]
  rw[ha] at hk
  obtain⟨a,_,rfl,_⟩:=Ou hu hs
  have:=Qu.QW (hk:Qu γ w bs u (.str a) kv);subst this
  refine now _ hu λj e he=>?_
  obtain⟨q,ys,h1,h2,h3⟩:=h j e he
  refine⟨q,h1,?_⟩
  obtain⟨a2,b2,e1,rfl,rfl⟩:=Ou hu h2
  simp only[List.cons.injEq,V.str.injEq,and_true] at e1
  subst e1
  rw[ha] at h3
  rw[Qu.QW (h3:Qu γ w bs u (.str b2) e.key)]
  simp only[Instr.sameNow,zy]
  exact Bool.eq_iff_iff.2 (by rw[MapKept.bytes_beq];simp)
 ·rw[ha] at hk
  have e1:(Instr.findKey t kv es).run P w=(Instr.findAsking t kv es).run P w:=by
   rcases EC ha with⟨fs,hu⟩|⟨n,e,hu⟩
   ·cases es with
    | nil=>simp[Instr.findKey,zF hu,Instr.findNow,Instr.findAsking]
    | cons e es=>simp[Instr.findKey,zF hu,Instr.findNow,Instr.sameNow]
   ·cases es with
    | nil=>simp[Instr.findKey,zF hu,Instr.findNow,Instr.findAsking]
    | cons e es=>simp[Instr.findKey,zF hu,Instr.findNow,Instr.sameNow]
  rw[e1]
  have gen:∀(es:List MapEntry) (qs:List Bool) (i:Nat),qs.length=es.length->(∀(j:Nat) (e:MapEntry),es[j]?=some e->∃q,qs[j]?=some q/\(Op.equal t kv e.key).run P w=.ok q w)->(Instr.findAsking t kv es i).run P w=.ok (Yj qs es i) w:=by
   intro es
   induction es with
   | nil=>intro qs i hl _;cases qs with|nil=>rfl|cons=>simp at hl
   | cons e es ih=>
    intro qs i hl hq
    cases qs with
    | nil=>simp at hl
    | cons q qs=>
     obtain⟨q',h1,h2⟩:=hq 0 e rfl
     simp only[wU,zy] at h1
     subst h1
     simp only[Instr.findAsking,zM,h2,zN,Yj]
     cases q with
     | true=>simp
     | false=>simpa using ih qs (i+1) (by simpa using hl) λj e' he=>by simpa using hq (j+1) e' (by simpa using he)
  refine gen es qs 0 hl λj e he=>?_
  obtain⟨q,ys,h1,h2,h3⟩:=h j e he
  refine⟨q,h1,?_⟩
  rw[ha] at h3
  exact Ij ha h2 hk h3
end
theorem Qs.bL{G:ze}{γ:Gh}{st:St}{tmps:Array Value}{w:World}(h:Qs G γ st tmps w){d z:Nat}(hM:Y8<=z)(hu:st.u d=false) :
  Qs G (γ.add d w.heap.size) (st.Qh d ⟨z,true,[]⟩) tmps (w.alloc (.map #[] 0))/\Qa γ w (γ.add d w.heap.size) (w.alloc (.map #[] 0))/\
   F0 γ st.b st.u (γ.add d w.heap.size) (st.Qh d ⟨z,true,[]⟩).b (st.Qh d ⟨z,true,[]⟩).u:=by
 have hh:(w.alloc (.map #[] 0)).heap=w.heap.push (.map #[] 0):=rfl
 have g:=Qa.push (γ:=γ) (w1:=w.alloc (.map #[] 0)) hh ⟨rfl,rfl,rfl⟩ d
 have bl:F0 γ st.b st.u (γ.add d w.heap.size) (st.Qh d ⟨z,true,[]⟩).b (st.Qh d ⟨z,true,[]⟩).u:=h.AO hu λb hb=>by simp only[Gh.add];rw[if_neg hb]
 refine⟨⟨h.n,λi=>(h.t i).mono g bl,λb k hk=>?_,λb k hk=>?_,h.g.grow g,λB x hx=>?_⟩,g,bl⟩
 ·simp only[St.Qh] at hk
  by_cases hb:b=d
  ·subst hb
   rw[if_pos rfl] at hk
   simp only[zy] at hk;subst hk
   refine .inr (.inl ⟨hM,w.heap.size,#[],0,by simp[Gh.add],by simp[Gh.add],by rw[hh];simp,rfl,λr hr=>by simp at hr,⟨λe he=>by simp at he,by simp,λe he=>by simp at he⟩,λi c hc=>by simp at hc⟩)
  ·rw[if_neg hb] at hk
   have hlt:∀B x,γ.own B=some x->B < w.heap.size/\B≠w.heap.size:=λB x hx=>by have:=h.o B x hx;omega
   rcases h.b b k hk with⟨v1,v2⟩|hm|⟨hM2,B,o,cs',e',h1,h2,h3,h4,h5,h6,h7,h8⟩
   ·exact .inl ⟨by simp_all [if_neg,Gh.add],v2⟩
   ·exact .inr (.inl (hm.same (by simp only[Gh.add];rw[if_neg hb]) (λB _ hB=>⟨by simp_all [if_neg,Gh.add],(by grind)⟩) λc v hr=>hr.mono g bl))
   ·have hne:=(hlt B _ h2).2
    refine .inr (.inr ⟨hM2,B,o,cs',e',by simp_all [if_neg,Gh.add],by simp_all [if_neg,Gh.add],h3.of_eq (by grind),h4,h5,λi c hc=>?_,
     by simp_all [if_neg,Gh.add],by simp_all [if_neg,Gh.add]⟩)
    obtain⟨v,a1,a2,a3,a4⟩:=h6 i c hc
    refine⟨v,a1,a2.mono g bl,a3,?_⟩
    replace a4:=a4.grow g (λB hB=>by
     simp_all [if_neg,zI,Gh.add])
    unfold D3 at a4 ⊢
    split at a4
    ·rcases a4 with a4|a4
     ·exact .inl a4
     simp_all [if_neg,Gh.add]
    ·trivial
 ·simp only[St.Qh] at hk ⊢
  by_cases hb:b=d
  ·subst hb;simp
  ·rw[if_neg hb] at hk;rw[if_neg hb];exact h.u b k hk
 ·simp only[Gh.add] at hx
  rw[hh];simp only[Array.size_push]
  split at hx
  ·omega
  ·have:=h.o B x hx;omega
theorem Qa.Pu{γ:Gh}{w:World}{B clock clock':Nat}{es es':Array MapEntry}{x:K7}(hheap:w.heap[B]?=some (.map es clock))(hown:γ.own B=some x):Qa γ w γ (w.putObj B (.map es' clock')) where
 os:=rfl
 tape:=rfl
 output:=rfl
 size:=by simp
 NS:=(by grind [Ut,World.putObj_heap_other,cellAt,World.cell?])
 Qp:=λ_ _=>zI _
 free:=λB' _ ho=>⟨(by grind [World.putObj_heap_other]),ho,rfl⟩
 room:=λB' cs e fz hc=>⟨cs,fz,by
  grind [World.putObj_heap_other],rfl,.inl rfl⟩
theorem Qs.Pu{G:ze}{γ:Gh}{st:St}{tmps:Array Value}{w:World}(h:Qs G γ st tmps w){b:Nat}{k:Qi}(hk:st.b b=some k){B clock clock':Nat}{es es':Array MapEntry}{rows':List (List V)}
  (hM:Y8<=k.size) (hloc:γ.loc b=some (B,0)) (hown:γ.own B=some (.ZQ b)) (hheap:w.heap[B]?=some (.map es clock)) (hn:es'.size=rows'.length)
  (hz:∀r,r∈rows'->r.length=mwd k.size) (hes:NR k.size es'/\oK es' clock')
  (hc:∀(i:Nat) (c:V),rows'.flatten[i]?=some c->∃v,(es'.toList.flatMap (G6 k.size))[i]?=some v/\Qu γ w st.b st.u c v/\v.oneCell'=true) :
  Qs G γ (st.Qh b ⟨k.size,k.Qn,rows'⟩) tmps (w.putObj B (.map es' clock'))/\Qa γ w γ (w.putObj B (.map es' clock'))/\F0 γ st.b st.u γ (st.Qh b ⟨k.size,k.Qn,rows'⟩).b (st.Qh b ⟨k.size,k.Qn,rows'⟩).u:=by
 have g:Qa γ w γ (w.putObj B (.map es' clock')):=Qa.Pu hheap hown
 have hB:B < w.heap.size:=h.o B _ hown
 have bl:F0 γ st.b st.u γ (st.Qh b ⟨k.size,k.Qn,rows'⟩).b (st.Qh b ⟨k.size,k.Qn,rows'⟩).u:=by
  refine⟨(by grind [St.Qh]),λb' hb hn=>?_,λb' k' hk'=>?_⟩
  ·have:b'≠b:=(by grind)
   simp_all [if_neg,St.Qh]
  ·by_cases hb:b'=b
   ·subst hb
    rw[hk] at hk';simp only[zy] at hk';subst hk'
    exact⟨by simp[St.Qh],.inr ⟨⟨k.size,k.Qn,rows'⟩,by simp[St.Qh],rfl,λhs=>absurd hs (Nat.not_lt_of_le hM),rfl⟩⟩
   ·exact⟨by simp only[St.Qh];rw[if_neg hb];exact h.u b' k' hk',.inr ⟨k',by simp_all [if_neg,St.Qh],rfl,λ_=>rfl,rfl⟩⟩
 refine⟨⟨h.n,λi=>(h.t i).mono g bl,λb' k' hk'=>?_,λb' k' hk'=>?_,h.g.grow g,λB' x hx=>by simpa using h.o B' x hx⟩,g,bl⟩
 ·simp only[St.Qh] at hk'
  by_cases hb:b'=b
  ·subst hb
   rw[if_pos rfl] at hk'
   simp only[zy] at hk';subst hk'
   refine .inr (.inl ⟨hM,B,es',clock',hloc,hown,World.putObj_heap_same hB,hn,hz,hes,λi c hi=>?_⟩)
   obtain⟨v,h1,h2,h3⟩:=hc i c hi
   exact⟨v,h1,h2.mono g bl,h3⟩
  ·rw[if_neg hb] at hk'
   have hne:∀B2,γ.own B2=some (.ZQ b')->B2≠B:=(by grind)
   rcases h.b b' k' hk' with⟨v1,v2⟩|hm|⟨hM2,B2,o2,cs2,e2,h1,h2,h3,h4,h5,h6,h7,h8⟩
   ·exact .inl ⟨v1,v2⟩
   ·exact .inr (.inl (hm.same rfl (by grind [World.putObj_heap_other]) λc v hr=>hr.mono g bl))
   refine .inr (.inr ⟨hM2,B2,o2,cs2,e2,h1,h2,h3.of_eq (World.putObj_heap_other (hne B2 h2)),h4,h5,λi c hc=>?_,h7,h8⟩)
   obtain⟨v,a1,a2,a3,a4⟩:=h6 i c hc
   exact⟨v,a1,a2.mono g bl,a3,a4.grow g⟩
 ·simp only[St.Qh] at hk' ⊢
  by_cases hb:b'=b
  ·subst hb;simp
  ·rw[if_neg hb] at hk';rw[if_neg hb];exact h.u b' k' hk'
theorem Pb{z:Nat}{es:Array MapEntry}(h:NR z es){e:MapEntry}(he:e∈es):(G6 z e).length=mwd z:=by
 obtain⟨h1,_,h3,_⟩:=h e he
 simp[G6,h1,h3,mwd]
theorem HX{z:Nat}{es:Array MapEntry}(h:NR z es)(i j:Nat)(hj:j < mwd z):(es.toList.flatMap (G6 z))[i * mwd z+j]?=(es[i]?).bind λe=>(G6 z e)[j]?:=by
 rw[List.flatMap_def]
 have gen:∀(rows:List (List Value)),(∀r,r∈rows->r.length=mwd z)->∀i,rows.flatten[i * mwd z+j]?=(rows[i]?).bind (·[j]?):=by
  intro rows
  induction rows with
  | nil=>grind
  | cons r rows ih=>
   intro hr i
   have hl:=hr r (by simp)
   cases i with
   | zero=>grind
   | succ i=>
    grind
 rw[gen _ (λr hr=>by obtain⟨e,he,rfl⟩:=zH.1 hr;grind [Pb])]
 grind
theorem Wq.row{γ:Gh}{w:World}{bs:zg}{u:zh}{z:Nat}{es:Array MapEntry}{rows:List (List V)}(hlen:es.size=rows.length)(hz:∀r,r∈rows->r.length=mwd z)(hes:NR z es)
  (hc:∀(i:Nat) (c:V),rows.flatten[i]?=some c->∃v,(es.toList.flatMap (G6 z))[i]?=some v/\Qu γ w bs u c v/\v.oneCell'=true) {i:Nat} {r:List V} (hr:rows[i]?=some r) :
  ∃e,es[i]?=some e/\Qu γ w bs u (A7 (yR z) (r.take (Dv z))) e.key/\Qu γ w bs u (A7 (Ft z) (r.drop (Dv z))) e.val:=by
 have hi:i < es.size:=by grind
 have he:es[i]?=some es[i]:=(by grind)
 have hrl:=hz r (zQ hr)
 obtain⟨k1,k2,k3,k4⟩:=hes es[i] (Array.getElem_mem hi)
 have cell:∀(j:Nat) (c:V),r[j]?=some c->∃v,(G6 z es[i])[j]?=some v/\Qu γ w bs u c v:=λj c hj=>by
  have hjl:j < mwd z:=by grind
  obtain⟨v,v1,v2,_⟩:=hc (i * mwd z+j) c (by grind [U7])
  grind [HX]
 have pack:∀(a:Bool) (l:List V) (v:Value),Gn a (X0 a v)=v->(X0 a v).length=l.length->(∀(j:Nat) (c:V),l[j]?=some c->∃x,(X0 a v)[j]?=some x/\Qu γ w bs u c x)->Qu γ w bs u (A7 a l) v:=λa l v hp hl hx=>by
  cases a with
  | true=>
   have hv:v=.agg (X0 true v).toArray:=hp.symm
   rw[hv]
   refine .agg l _ hl λj c x hj hxj=>?_
   grind
  | false=>
   cases l with
   | nil=>simp[X0] at hl
   | cons c l=>
    obtain⟨y,y1,y2⟩:=hx 0 c rfl
    simp only[X0,wU,zy] at y1
    subst y1
    exact y2
 refine⟨es[i],he,pack _ _ _ k2 (by grind [List.length_take,mwd]) (λj c hj=>?_),pack _ _ _ k4 (by grind [List.length_drop,mwd]) (λj c hj=>?_)⟩
 ·grind [List.getElem?_append_left,G6]
 grind [List.getElem?_append_right,Nat.add_sub_cancel_left,G6]
def Ak{α β:Type}(l:List α)(p:α->Bool)(f:α->β)(z:β):β:=match l.findIdx? p with
 | some j=>match l[j]? with
  | some x=>f x
  | none=>z
 | none=>z
def UB(P:Program)(t:TypeId):Option V:=match P.info? t with
 | some i=>match i.zero with
  | some (.agg a)=>(a.toList.mapM WI).map .agg
  | some v=>WI v
  | none=>none
 | none=>none
theorem Lu{P:Program}{γ:Gh}{w:World}{bs:zg}{u:zh}{t:TypeId}{c:V}(h:UB P t=some c):∃v,(zeroValue t).run P w=.ok v w/\Qu γ w bs u c v:=by
 unfold UB at h
 split at h
 ·rename_i i hi
  split at h
  ·rename_i a hz
   obtain⟨l,h1,rfl⟩:=zE.1 h
   have:=KZ (γ:=γ) (w:=w) (bs:=bs) (u:=u) h1
   refine⟨.agg a,by simp[zeroValue,typeInfo,hi,hz],?_⟩
   have e:(.agg a:Value)=.agg a.toList.toArray:=by simp
   rw[e]
   exact .agg l _ (by have:=this.1;grind) λj c v hc hv=>this.2 j c v hc (by simpa using hv)
  ·rename_i v _ hz
   exact⟨v,by simp[zeroValue,typeInfo,hi,hz],.data (Ea h)⟩
  ·simp at h
 ·simp at h
section
variable {P:Program} {G:ze}
def Qw.makeMap(t:TypeId)(d z:Nat)(hz:Y8<=z):Qw P G Unit where
 op:=.makeMap t none
 dst:=some d
 ZY:=[]
 Zb:=[]
 o:=some ()
 ws:=λ_=>[.b d (some ⟨z,true,[]⟩),.t d (.mp d)]
 dt:=[]
 JC:=(by grind)
 ok:=λ_ _ x st hop hdst _ _ hd=>M1 λγ a w hs=>by
  obtain⟨h1,h2⟩:=hd d rfl
  have key:=hs.bL hz h2
  refine⟨.map (some w.heap.size),w.alloc (.map #[] 0),γ.add d w.heap.size,by simp[execOp,hop,Instr.makeMap],key.2.1,key.2.2.JH,?_⟩
  have:=key.1.put (a:=a) (dst:=some d) (c:=.mp d) (v:=.map (some w.heap.size)) (by simpa[H7,St.Qh] using h1) (.mp d w.heap.size ⟨z,true,[]⟩ (by simp[St.Qh]) (by simp[Gh.add]) hz)
  rw[hdst]
  exact this
theorem Xa{γ:Gh}{w:World}{bs:zg}{u:zh}{a:Bool}{l:List V}{v:Value}(h:Qu γ w bs u (A7 a l) v)(h1:a=false->l.length=1) :
  (X0 a v).length=l.length/\Gn a (X0 a v)=v/\∀(j:Nat) (c:V),l[j]?=some c->∃x,(X0 a v)[j]?=some x/\Qu γ w bs u c x:=by
 cases a with
 | true=>
  obtain⟨vs,rfl,e1,e2⟩:=(h:Qu γ w bs u (.agg l) v).QX
  refine⟨by simpa[X0] using e1,by simp[Gn,X0],λj c hj=>?_⟩
  have hlt:j < vs.length:=by grind
  have hx:vs[j]?=some vs[j]:=(by grind)
  grind [X0]
 | false=>
  have:=h1 rfl
  match l,this,h with
  | [c],_,h=>
   refine⟨rfl,rfl,λj c' hj=>?_⟩
   cases j with
   | zero=>simp at hj;subst hj;exact⟨v,rfl,h⟩
   | succ j=>simp at hj
theorem XY{z:Nat}{es:Array MapEntry}{rows:List (List V)}{R:V->Value->Prop}(hes:NR z es)(hlen:es.size=rows.length)(hz:∀r,r∈rows->r.length=mwd z) :
  (∀(i:Nat) (c:V),rows.flatten[i]?=some c->∃v,(es.toList.flatMap (G6 z))[i]?=some v/\R c v)↔
   ∀(q:Nat) (r:List V) (e:MapEntry),rows[q]?=some r->es[q]?=some e->∀(j:Nat) (c:V),r[j]?=some c->∃v,(G6 z e)[j]?=some v/\R c v:=by
 constructor
 ·intro h q r e hr he j c hj
  have hjl:j < mwd z:=by grind
  obtain⟨v,v1,v2⟩:=h (q * mwd z+j) c (by grind [U7])
  grind [HX]
 ·intro h i c hc
  have hpos:0 < mwd z:=by
   grind [Nat.eq_zero_or_pos,List.flatten_eq_nil_iff,List.length_eq_zero_iff,mwd,trans]
  have e:i=(i / mwd z) * mwd z+i % mwd z:=by grind [Nat.mul_comm,Nat.div_add_mod,mwd]
  have hm:=Nat.mod_lt i hpos
  rw[e,U7 rows hz _ _ hm] at hc
  obtain⟨r,hr,hc⟩:=zV.1 hc
  have hq:i / mwd z < es.size:=by grind
  have he:es[i / mwd z]?=some es[i / mwd z]:=(by grind)
  grind [HX]
end
end Go.EV
