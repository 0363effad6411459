/- Guided execution: the executor is right: if what is found is what the guide says, the function's body comes to what the guide is worth; no conditions ..; no conditions. -/
import Derived.Test.YtjdieimefebnfaaGreatDoorH4
import Derived.Test.YtjdieimefebnfaaGreatDoorH2
import Derived.RangeFuncRecord
import Derived.RangeFuncNested
import Derived.MapKept
import Derived.Test.YtjdieimefebnfaaGreatDoorH1
import Derived.KernelRfl
set_option linter.unusedVariables false
set_option linter.unusedSimpArgs false
namespace Go.EV
open Go
section
variable {P:Program} {G:ze}
def Rel(_P:Program)(G:ze)(Q:Exit->St->Prop)(e:Exit)(st:St):Prop:=
 ∀(fx:Fx) (γ:Gh) (a:Act) (w:World),Qp G γ st a.tmps w->a.defers=fx.ds->O5 G fx γ st w Q e a w
theorem Rel.of{Q:Exit->St->Prop}{e:Exit}{st:St}(h:Q e st):Rel P G Q e st:=λ_ γ _ w hs hd=>⟨st,γ,hs,⟨.refl γ w,.refl hs.u⟩,.of hd,h⟩
theorem Rel.mono{Q Q':Exit->St->Prop}{e e':Exit}{st:St}(h:Rel P G Q e st)(hq:∀s,Q e s->Q' e' s):Rel P G Q' e' st:=λfx γ a w hs hd=>by
 obtain⟨st',γ',h1,h2,h3,h4⟩:=h fx γ a w hs hd
 exact⟨st',γ',h1,h2,h3,hq _ h4⟩
theorem Rel.forget{Q:Exit->St->Prop}{e:Exit}{st st':St}(f:F5 st st')(h:Rel P G Q e st'):Rel P G Q e st:=λfx γ a w hs hd=>
 (h fx γ a w (f.FV hs) hd).grow ⟨.refl γ w,f.JQ hs⟩
theorem Rel.ghost{Q:Exit->St->Prop}{e:Exit}{st st':St}(g:QU G st st')(h:Rel P G Q e st'):Rel P G Q e st:=λfx γ a w hs hd=>by
 obtain⟨γ',h1,h2,h3⟩:=g γ a.tmps w hs
 exact(h fx γ' a w h1 hd).grow ⟨h2,h3⟩
theorem TV.rel{c:Code}{st:St}{Q Q':Exit->St->Prop}(h:TV P G c st Q')(hq:∀e s,Q' e s->Rel P G Q e s):TV P G c st Q:=λfx γ a w hs hd=>
 wpIn_mono (h fx γ a w hs hd) λe a' w' hl=>by
  obtain⟨st',γ',h1,h2,h3,h4⟩:=hl
  exact(hq e st' h4 ⟨fx.ro,a'.defers,fx.mx⟩ γ' a' w' h1 rfl).Oh h2 h3
theorem TV.Qqs{st:St}{Q:Exit->St->Prop}(h:Rel P G Q .normal st):TV P G .skip st Q:=λfx γ a w hs hd=>wpIn_skip (h fx γ a w hs hd.1)
theorem TV.cJ{l:Nat}{st:St}{Q:Exit->St->Prop}(h:Rel P G Q .normal st):TV P G (.label l) st Q:=λfx γ a w hs hd=>wpIn_label (h fx γ a w hs hd.1)
theorem TV.Qhq{id:Nat}{st:St}{Q:Exit->St->Prop}(h:Rel P G Q (.exit id) st):TV P G (.exit id) st Q:=λfx γ a w hs hd=>wpIn_exit (h fx γ a w hs hd.1)
theorem TV.Qkq{st:St}{Q:Exit->St->Prop}(h:Rel P G Q .ret st):TV P G .ret st Q:=λfx γ a w hs hd=>wpIn_ret (h fx γ a w hs hd.1)
def NI(P:Program)(G:ze)(c:Code)(st:St)(Q:Exit->St->Prop):Prop:=
 ∀(fx:Fx) (γ:Gh) (a:Act) (w:World),Qp G γ st a.tmps w->Uz fx γ a.defers w->Fg fx.ro P c (O5 G fx γ st w Q) a w
theorem TV.lX{c:Code}{st:St}{Q:Exit->St->Prop}(h:TV P G c st (EI (λs=>NI P G c s Q) Q)):∀(fx:Fx) (γ:Gh) (a:Act) (w:World),Qp G γ st a.tmps w->Uz fx γ a.defers w->CW fx.ro P c (Exit.then (Fg fx.ro P c (O5 G fx γ st w Q)) (O5 G fx γ st w Q)) a w:=λfx γ a w hs hd=>
 wpIn_mono (h fx γ a w hs hd) λe a' w' hl=>by
  obtain⟨st',γ',h1,h2,h3,h4⟩:=hl
  cases e with
  | normal=>exact Te (h4 ⟨fx.ro,a'.defers,fx.mx⟩ γ' a' w' h1 (hd.step h2.1)) λ_ _ _ hl=>hl.Oh h2 h3
  | _=>exact⟨st',γ',h1,h2,h3,h4⟩
theorem TV.Aa{c:Code}{st:St}{Q:Exit->St->Prop}(h:TV P G c st (EI (λs=>NI P G c s Q) Q)):TV P G (.loop c) st Q:=λfx γ a w hs hd=>MH (TV.lX h fx γ a w hs hd)
theorem NI.once{c:Code}{st:St}{Q:Exit->St->Prop}(h:TV P G c st (EI (λs=>NI P G c s Q) Q)):NI P G c st Q:=λfx γ a w hs hd=>Ox (TV.lX h fx γ a w hs hd)
def noGoto(Q:Exit->St->Prop):Exit->St->Prop
 | .goto _,_=>False
 | e,st=>Q e st
def Qx(P:Program)(G:ze)(Q:Exit->St->Prop):List Kf->Exit->St->Prop
 | []=>Q
 | .seq y :: K=>EI (λst=>TV P G y st (Qx P G Q K)) (Qx P G Q K)
 | .block id :: K=>V0 id (Qx P G Q K)
 | .scope :: K=>noGoto (Qx P G Q K)
 | .lp c :: K=>EI (λst=>NI P G c st (Qx P G Q K)) (Qx P G Q K)
def N3(P:Program){ρ:Type}(F:Yz ρ)(r:ρ)(n:Nat):Exit->St->Prop:=
 match F with
 | .fn rs res outs=>λe s=>∃v0,D4 8 (res r) v0=res r/\NN P rs v0 (Qm (outs r)) e s
 | .LU E=>Ug (E r) n
 | .reg _ _=>λ_ _=>False
 | .VP S E=>match r with
  | .inl y=>λe s=>A5 e=true/\Ug (S y) n e s
  | .inr z=>λe s=>A5 e=false/\Ug (E z) n e s
 | .iE rs res outs ex Zh=>match r with
  | .inl r=>λe s=>∃v0,D4 8 (res r) v0=res r/\NN P rs v0 (Qm (outs r)) e s
  | .inr z=>λe s=>e=ex z/\∀b k,Qm (Zh z) b=some k->s.b b=some k
def AN(P:Program)(G:ze)(Q:Exit->St->Prop)(cur:Code⊕Exit)(K:List Kf)(st:St):Prop:=
 match cur with
 | .inl c=>TV P G c st (Qx P G Q K)
 | .inr e=>Rel P G (Qx P G Q K) e st
def BZ(rec:Rec P G):Prop:=
 ∀(ρ:Type) (F:Yz ρ) (g:T P G ρ) (cur:Code⊕Exit) (K:List Kf) (d:D) (r:ρ),d.Ok->rec ρ F g cur K d=g.expect F->g.run=some r->AN P G (N3 P F r d.n) cur K d.st
section
variable {kp:List Nat} {rec:Rec P G} (hm:P.follows .mixedOrders=true) (hrec:BZ rec) {ρ:Type} {F:Yz ρ} {g:T P G ρ} {K:List Kf} {d:D} {r:ρ}
theorem HX{e:Exit}{x:Ext}(h:Av e x d=HA x.ex x):Ug x d.n e d.st:=by
 simp only[Av,HA,C.fin.injEq,true_and,zx] at h
 exact⟨h.1,rfl,h.2.1,h.2.2⟩
theorem uQ{e:Exit}(h:fin P G F g e d=g.expect F)(hr:g.run=some r):N3 P F r d.n e d.st:=by
 cases g<;>simp only[fin] at h<;>try exact absurd h (Z7 _ _ _)
 case done r'=>
  simp only[T.run,zx] at hr
  subst hr
  cases F with
  | fn rs res outs=>
   have key:(e=.normal\/e=.ret)->C.fin ((O7 P d.st rs).map (D4 8 (res r'))) none [] ((outs r').map λp=>(p.1,d.st.b p.1))=T.expect (Yz.fn rs res outs) (T.done (P:=P) (G:=G) r')->N3 P (Yz.fn rs res outs) r' d.n e d.st:=by
    intro he h
    simp only[T.expect,C.fin.injEq,true_and] at h
    obtain⟨v0,h0,h1⟩:=zC.1 h.1
    refine⟨v0,h1,he,h0,λb k hk=>?_⟩
    have hmem:=G7 hk
    grind [List.map_inj_left]
   grind [T.expect]
  | LU E=>exact HX (by simpa[T.expect] using h)
  | iE rs res outs ex Zh=>
   cases r' with
   | inl y=>
    have key:(e=.normal\/e=.ret)->C.fin ((O7 P d.st rs).map (D4 8 (res y))) none [] ((outs y).map λp=>(p.1,d.st.b p.1))=C.fin (some (res y)) none [] ((outs y).map λp=>(p.1,some p.2))->∃v0,D4 8 (res y) v0=res y/\NN P rs v0 (Qm (outs y)) e d.st:=by
     intro he h
     simp only[C.fin.injEq,true_and] at h
     obtain⟨v0,h0,h1⟩:=zC.1 h.1
     refine⟨v0,h1,he,h0,λb k hk=>?_⟩
     have hmem:=G7 hk
     grind [List.map_inj_left]
    simp only at h
    split at h
    ·exact key (.inl rfl) (by simpa[T.expect] using h)
    ·exact key (.inr rfl) (by simpa[T.expect] using h)
    ·simp[T.expect] at h
   | inr z=>
    simp only[T.expect,C.fin.injEq,true_and,zx] at h
    refine⟨h.1,λb k hk=>?_⟩
    have hmem:=G7 hk
    grind [List.map_inj_left]
  | reg ts E=>exact absurd h (Z7 _ _ _)
  | VP S E=>
   cases r' with
   | inl y=>
    simp only at h
    split at h
    ·rename_i hn;exact⟨hn,HX (by simpa[T.expect] using h)⟩
    grind [Z7,absurd]
   | inr z=>
    simp only at h
    split at h
    ·exact absurd h (Z7 _ _ _)
    ·rename_i hn;exact⟨hn,HX (by simpa[T.expect] using h)⟩
theorem YR{x:Ext}{n:Nat}(hok:x.ok=true):(x.D n).Ok:=by
 have hok':=hok
 simp only[Ext.ok,zD,zF] at hok'
 refine D.Ok.yD (λp hp=>hok'.1 p hp) (λp hp=>⟨?_,λr hr c hc=>?_⟩) (λb hb k hk=>?_)
 ·simp only[ZM,Ext.D,Ext.us,zT,zZ,zA]
  exact .inl (zG.2 ⟨p,hp,rfl⟩)
 ·have:=hok'.2 p hp
  simp only[KW,zT,zZ,zA,zF] at this
  rcases this with h1|h1
  ·exact R4 (x.JN p hp h1 r hr c hc) _
  ·exact h1 r hr c hc
 ·unfold D.st at hk
  rw[Kd] at hk
  split at hk
  ·rename_i p hp
   simp only[zx] at hk
   subst hk
   obtain⟨h1,h2⟩:=G8 hp
   exact x.JN p h1 (by rw[h2];exact hb)
  ·simp at hk
theorem Yn{e:Exit}(h:A5 e=false):e≠.normal:=by grind [A5]
theorem Jw{e:Exit}(h:A5 e=true):e=.normal:=by grind [A5]
theorem Hh{A:St->Prop}{Q:Exit->St->Prop}{e:Exit}(h:e≠.normal)(s:St)(hq:Q e s):EI A Q e s:=by
 cases e<;>first|exact absurd rfl h|exact hq
include hrec in
theorem Vj{e:Exit}(hd:d.Ok)(h:sxE rec F g e K d=g.expect F)(hr:g.run=some r):Rel P G (Qx P G (N3 P F r d.n) K) e d.st:=by
 unfold sxE at h
 split at h
 ·exact Rel.of (uQ h hr)
 ·rename_i y K
  split at h
  ·rename_i hn
   have:=hrec _ _ _ _ _ _ _ hd h hr
   rw[Jw hn]
   exact Rel.of (show TV P G y d.st _ from this)
  ·rename_i hn
   have:Rel P G (Qx P G (N3 P F r d.n) K) e d.st:=hrec _ _ _ _ _ _ _ hd h hr
   exact this.mono λs hq=>Hh (Yn hn) s hq
 ·rename_i id K
  split at h
  ·rename_i id'
   split at h
   ·rename_i he
    have:Rel P G (Qx P G (N3 P F r d.n) K) .normal d.st:=hrec _ _ _ _ _ _ _ hd h hr
    refine this.mono λs hq=>?_
    show V0 id _ (.exit id') s
    simp_all [if_pos,V0]
   ·rename_i he
    have:Rel P G (Qx P G (N3 P F r d.n) K) (.exit id') d.st:=hrec _ _ _ _ _ _ _ hd h hr
    refine this.mono λs hq=>?_
    show V0 id _ (.exit id') s
    simp_all [if_neg,V0]
  ·rename_i he
   have:Rel P G (Qx P G (N3 P F r d.n) K) e d.st:=hrec _ _ _ _ _ _ _ hd h hr
   refine this.mono λs hq=>?_
   show V0 id _ e s
   cases e<;>first|exact absurd rfl (he _)|exact hq
 ·rename_i K
  split at h
  ·exact absurd h (Z7 _ _ _)
  ·rename_i he
   have:Rel P G (Qx P G (N3 P F r d.n) K) e d.st:=hrec _ _ _ _ _ _ _ hd h hr
   refine this.mono λs hq=>?_
   show noGoto _ e s
   cases e<;>first|exact absurd rfl (he _)|exact hq
 ·rename_i c K
  split at h
  ·rename_i hn
   have:=hrec _ _ _ _ _ _ _ hd h hr
   rw[Jw hn]
   exact Rel.of (show NI P G c d.st _ from NI.once this)
  ·rename_i hn
   have:Rel P G (Qx P G (N3 P F r d.n) K) e d.st:=hrec _ _ _ _ _ _ _ hd h hr
   exact this.mono λs hq=>Hh (Yn hn) s hq
omit hrec hm in
theorem aN{p:Y4}{x:List Loc×List Wr}{y:Wr}{i:Nat}(hx:x∈p)(hy:y∈x.2)(e:y.loc=.t i):i∈p.Rh:=by
 refine wz.2 ⟨x,hx,List.mem_filterMap.2 ⟨y,hy,?_⟩⟩
 cases y with
 | t j c=>grind [Loc.t.injEq,Wr.loc]
 | b j k=>simp[Wr.loc] at e
theorem aR{p:Y4}{x:List Loc×List Wr}{y:Wr}{i:Nat}(hx:x∈p)(hy:y∈x.2)(e:y.loc=.b i):i∈p.De:=by
 refine wz.2 ⟨x,hx,List.mem_filterMap.2 ⟨y,hy,?_⟩⟩
 cases y with
 | b j k=>grind [Loc.b.injEq,Wr.loc]
 | t j c=>simp[Wr.loc] at e
theorem UO{α:Type}(l:List (Nat×α))(f:zh)(i:Nat):(l.filter λx=>f x.1).find? (λp=>p.1==i)=if f i then l.find? (λp=>p.1==i) else none:=by
 grind
theorem XW{P:Program}{G:ze}{ops:Array Oper}{ip:Nat}{st0:St}:∀{m:Nat} {p:Y4} {s:St} {p':Y4},
  XK P G ops ip (List.range' p.length m) s p=some p'->
  (s=U9 p st0 p.length/\∀j,j < p.length->j≠ip->((YF ops.toList).getD j 0).testBit ip=false->X1 P G ops j (U9 p st0 j) (p.rs j) (p.ws j))->ip < p.length->
  p'.length=p.length+m/\True/\(∀j,j < p.length+m->j≠ip->((YF ops.toList).getD j 0).testBit ip=false->X1 P G ops j (U9 p' st0 j) (p'.rs j) (p'.ws j))/\(∀j,j<=p.length->U9 p' st0 j=U9 p st0 j)/\∀j,j < p.length->p'[j]?=p[j]?
 | 0,p,s,p',h,hs,_=>by
  obtain rfl:p=p':=by simpa[XK] using h
  exact⟨rfl,trivial,hs.2,λ_ _=>rfl,λ_ _=>rfl⟩
 | m+1,p,s,p',h,hs,hip=>by
  rw[List.range'_succ] at h
  have next:∀{s1:St} {x:List Loc×List Wr},XK P G ops ip (List.range' (p.length+1) m) s1 (p++[x])=some p'->s1=(U9 p st0 p.length).app x.2->(((YF ops.toList).getD p.length 0).testBit ip=false->X1 P G ops p.length (U9 p st0 p.length) x.1 x.2)->
    p'.length=p.length+(m+1)/\True/\(∀j,j < p.length+(m+1)->j≠ip->((YF ops.toList).getD j 0).testBit ip=false->X1 P G ops j (U9 p' st0 j) (p'.rs j) (p'.ws j))/\(∀j,j<=p.length->U9 p' st0 j=U9 p st0 j)/\∀j,j < p.length->p'[j]?=p[j]?:=by
   intro s1 x h1 h2 h3
   have hl:(p++[x]).length=p.length+1:=by simp
   rw[<-hl] at h1
   have:=XW h1 ⟨by rw[h2];exact(KK p x st0).symm,λj hj hne hw=>by
    by_cases hj':j < p.length
    ·have e1:(p++[x]).rs j=p.rs j/\(p++[x]).ws j=p.ws j:=by
      unfold Y4.rs Y4.ws
      rw[wv,wv,wg hj'];exact⟨rfl,rfl⟩
     grind [E8]
    ·obtain rfl:j=p.length:=by omega
     have e1:(p++[x]).rs p.length=x.1/\(p++[x]).ws p.length=x.2:=by
      unfold Y4.rs Y4.ws
      rw[wv,List.getElem?_concat_length];exact⟨rfl,rfl⟩
     rw[E8 _ _ _ _ (zH _),e1.1,e1.2]
     exact h3 hw⟩ (by omega)
   obtain⟨a1,_,a3,a4,a5⟩:=this
   rw[hl] at a1 a3
   refine⟨by omega,trivial,λj hj=>a3 j (by omega),(by grind [E8]),(by grind)⟩
  simp only[XK] at h
  split at h
  ·rename_i hw
   exact next h (by rw[hs.1];rfl) (by grind)
  grind [YJ]
theorem MJ{d:D}{p:Y4}{s:St}(hd:d.Ok)(hn:s.n=d.n)(h:∀l,(∀x,x∈p->∀y,y∈x.2->y.loc≠l)->I6 s d.st l):F5 s (WB d p).st:=by
 have mu:∀b,ZM d.us b=true->(WB d p).st.u b=true:=λb hb=>by
  show ((p.De++d.us).contains b || Qw b)=true
  simp only[ZM,zT,zZ,zA,zX] at hb ⊢
  grind
 have mono:∀c,okV (ZM d.us) c=true->okV (WB d p).st.u c=true:=λc hc=>L9 mu c hc
 refine⟨hn.symm,λi=>?_,λb=>?_,(by grind [Uj,D.st,E1,Qw])⟩
 ·have e0:(WB d p).st.t i=(match (d.ts.filter λx=>!p.Rh.contains x.1).find? (λp=>p.1==i) with|some p=>p.2|none=>V.undef):=rfl
  rw[UO d.ts (λi=>!p.Rh.contains i)] at e0
  by_cases hc:p.Rh.contains i=true
  ·grind
  ·have hc':p.Rh.contains i=false:=by simpa using hc
   rw[hc'] at e0
   have e:s.t i=d.st.t i:=h (.t i) λx hx y hy e=>(by grind [aN])
   refine .inr ⟨by rw[e0,e];rfl,by rw[e];exact mono _ (hd.tmp i)⟩
 ·have e0:(WB d p).st.b b=(match (d.bs.filter λx=>!p.De.contains x.1).find? (λp=>p.1==b) with|some p=>some p.2|none=>none):=rfl
  rw[UO d.bs (λi=>!p.De.contains i)] at e0
  by_cases hc:p.De.contains b=true
  ·grind
  ·have hc':p.De.contains b=false:=by simpa using hc
   rw[hc'] at e0
   have e:s.b b=d.st.b b:=(h (.b b) λx hx y hy e=>(by grind [aR])).1
   refine .inr ⟨by rw[e0,e];rfl,λk hk=>?_⟩
   rw[e] at hk
   obtain⟨h1,h2⟩:=hd.ZQ hk
   grind
theorem uI{d:D}{p:Y4}(hd:d.Ok):(WB d p).Ok:=by
 have f:=MJ (p:=p) hd (s:=d.st) rfl λl _=>I6.refl _ l
 refine D.Ok.Wi f λb hb k hk r hr c hc=>?_
 rcases f.b b with h|⟨h,_⟩
 ·grind
 ·rw[h] at hk;exact hd.sy b hb k hk r hr c hc
include hrec hm in
theorem IW{id:Nat}{ops:Array Oper}{draw:Bool}(hd:d.Ok)(h:gF kp rec F id ops draw g K d=g.expect F)(hr:g.run=some r):TV P G (.region id ops draw) d.st (Qx P G (N3 P F r d.n) K):=by
 rcases My h hr hd.sy with⟨g',s,p,sy',x1,x2,x3,x4,x5,x6⟩|⟨v,g',sy',p,R,W,x1,x2,x3,x4,x5,x6⟩
 ·split at x1
  ·rename_i hdr
   obtain⟨d',y1,y2,y3,y4⟩:=Hr x1 (λj=>Z7 F g' j) hd x5 x3
   have hq:Rel P G (Qx P G (N3 P F r d'.n) K) .normal d'.st:=hrec _ _ _ _ _ _ _ y2 y1 x2
   rw[y4] at hq
   refine TV.rel (Q':=λe s'=>e=.normal/\s'=s) (TV.Ci hm hdr x5 x6 ⟨rfl,rfl⟩) λe s' he=>?_
   obtain⟨rfl,rfl⟩:=he
   exact hq.forget y3
  grind [Z7,absurd]
 ·cases draw with
  | false=>
   obtain⟨d',y1,y2,y3,y4⟩:=Hr x1 (λj=>Z7 F g' j) hd (KK p (R,W) d.st).symm x3
   have hq:Rel P G (Qx P G (N3 P F r d'.n) K) (.panic v) d'.st:=hrec _ _ _ _ _ _ _ y2 y1 x2
   rw[y4] at hq
   refine TV.rel (Q':=λe s''=>e=.panic v/\s''=(U9 p d.st p.length).app W) (TV.Qzy x4 x5 (x6 _ rfl λl _=>I6.refl _ l) ⟨rfl,rfl⟩) λe s'' he=>?_
   obtain⟨rfl,rfl⟩:=he
   exact hq.forget y3
  | true=>
   simp only at x1
   split at x1
   rotate_left
   ·exact absurd x1 (Z7 _ _ _)
   rename_i p' hw
   split at x1
   rotate_left
   ·exact absurd x1 (Z7 _ _ _)
   rename_i hc
   simp only[zD,KU] at hc
   have hlen:(p++[(R,W)]).length=p.length+1:=by simp
   rw[show (p++[(R,W)]).length - 1=p.length by simp] at hw
   obtain⟨r1,r2,r3,r4,r5⟩:=XW (st0:=d.st) (ip:=p.length) hw ⟨(KK p (R,W) d.st).symm,λj hj hne _=>by
     have hj':j < p.length:=by omega
     rw[E8 _ _ _ _ (by omega)]
     have e1:(p++[(R,W)]).rs j=p.rs j/\(p++[(R,W)]).ws j=p.ws j:=by
      unfold Y4.rs Y4.ws
      rw[wv,wv,wg hj'];exact⟨rfl,rfl⟩
     rw[e1.1,e1.2];exact x5 j hj'⟩ (by omega)
   have e2:∀i,i<=ops.size->p'.st (λj=>decide (j < i)) d.st ops.size=U9 p' d.st i:=λi hi=>by
    simp_all [Um,min]
   have hx:(R,W)∈p':=by
    grind
   have far:∀(D:zh) (l:Loc),(∀x,x∈p'->∀y,y∈x.2->y.loc≠l)->I6 ((p'.st D d.st ops.size).app W) d.st l:=λD l h=>by
    refine(I7 W _ (h (R,W) hx)).trans ?_
    have key:∀n,I6 (p'.st D d.st n) d.st l:=λn=>by
     induction n with
     | zero=>exact I6.refl _ _
     | succ n ih=>
      simp only[Y4.st]
      split
      ·refine(I7 _ _ λy hy=>?_).trans ih
       grind [List.mem_of_getElem?,Y4.ws]
      ·exact ih
    exact key _
   have fg:∀D:Nat->Bool,F5 ((p'.st D d.st ops.size).app W) (WB d p').st:=λD=>MJ hd (by rw[On,Y4.Ve];rfl) λl h=>far D l h
   have hq:Rel P G (Qx P G (N3 P F r (WB d p').n) K) (.panic v) (WB d p').st:=hrec _ _ _ _ _ _ _ (uI hd) x1 x2
   refine TV.rel (Q':=λe s''=>e=.panic v/\∃D:Nat->Bool,s''=(p'.st D d.st ops.size).app W) (TV.lG (ip:=p.length) (ex:=.panic v) (W:=W) hm hc.1 hc.2 (λi hi hne hw=>?_) (λh=>by omega) λ_=>⟨?_,λD=>⟨rfl,D,rfl⟩⟩) λe s'' he=>?_
   ·grind
   ·rw[e2 _ (by omega)]
    simp_all [wv,List.getElem?_concat_length,E8,zH,Y4.rs]
   ·obtain⟨rfl,D,rfl⟩:=he
    exact hq.forget (fg D)
theorem Ga{ops:Array Oper}{draw:Bool}{ts:List Nat}{ε:Type}{E:ε->List V}{first:T P G ε}{e:ε}{s:St}{p:Y4}(h:RT P G ops draw ts d first s p=first.expect (.reg ts E))(hr:first.run=some e) :
  ts.map s.t=E e/\(!draw || KU ops p)=true/\(∀b,b∈p.De->∀x,x∈d.bs->x.1≠b)/\∀t,t∈p.Rh->t∈ops.toList.filterMap (·.dst):=by
 unfold RT at h
 split at h
 ·rename_i r'
  simp only[T.run,zx] at hr
  subst hr
  split at h
  ·grind [C.vZ.injEq,T.expect]
  grind [Z7,absurd]
 ·simp[T.run] at hr
 grind [Z7,absurd]
theorem TY{ts:List Nat}{vs:List V}{s:St}(h:ts.map s.t=vs):∀p,p∈ts.zip vs->s.t p.1=p.2:=by
 subst h
 intro p hp
 induction ts with
 | nil=>simp at hp
 | cons t ts ih=>
  grind [List.zip_cons_cons]
include hrec hm in
theorem Vz{id:Nat}{ops:Array Oper}{draw:Bool}(hd:d.Ok)(h:sxR kp rec F id ops draw g K d=g.expect F)(hr:g.run=some r):TV P G (.region id ops draw) d.st (Qx P G (N3 P F r d.n) K):=by
 unfold sxR at h
 split at h
 ·rename_i ε id' ts first E k
  split at h
  ·simp only[T.expect,C.bind.injEq,heq_eq_eq,true_and] at h
   obtain⟨h1,h2⟩:=h
   simp only[T.run] at hr
   split at hr
   ·rename_i e he
    have h3:=congrFun h2 e
    split at h3
    ·rename_i hok
     simp only[zD,zF,beq_iff_eq] at hok
     rcases My h1 he hd.sy with⟨g',s,p,sy',x1,x2,x3,x4,x5,x6⟩|⟨_,_,_,_,_,_,x1,_⟩
     rotate_left
     ·exact absurd x1 (Z7 _ _ _)
     obtain⟨y1,y2,y3,y4⟩:=Ga x1 x2
     have tmp:∀i,¬i∈ops.toList.filterMap (·.dst)->s.t i=d.st.t i:=(by grind [Jx])
     have fg:F5 s (PL ops ts d (E e)).st:=by
      refine⟨?_,λi=>?_,λb=>?_,λb hb=>Mk (Uj hb)⟩
      ·rw[x5,Fa];rfl
      ·have e0:(PL ops ts d (E e)).st.t i=(match (ts.zip (E e)++d.ts.filter λx=>!(ops.toList.filterMap (·.dst)).contains x.1&&!ts.contains x.1).find? (λp=>p.1==i) with|some p=>p.2|none=>.undef):=rfl
       rw[e0,List.find?_append]
       cases hf:(ts.zip (E e)).find? (λp=>p.1==i) with
       | some x=>
        obtain⟨z1,z2⟩:=G8 hf
        have z3:=TY y1 x z1
        refine .inr ⟨by grind,?_⟩
        rw[<-z2,z3]
        exact hok.1 x.2 (List.of_mem_zip z1).2
       | none=>
        simp only[Option.none_or]
        cases hw:(!(ops.toList.filterMap (·.dst)).contains i&&!ts.contains i) with
        | false=>grind
        | true=>
         rw[F3 (q:=λj=>!(ops.toList.filterMap (·.dst)).contains j&&!ts.contains j) hw]
         simp only[zD,wa,zZ,decide_eq_false_iff_not] at hw
         have e1:=tmp i hw.1
         exact .inr ⟨by rw[e1];rfl,by rw[e1];exact hd.tmp i⟩
      ·have e0:(PL ops ts d (E e)).st.b b=d.st.b b:=rfl
       rw[e0]
       by_cases hw:b∈p.De
       ·grind [Kd,List.find?_eq_none,D.st]
       ·have e1:s.b b=d.st.b b:=by grind [Ja]
        refine .inr ⟨by rw[e1],λk hk=>?_⟩
        rw[e1] at hk
        exact hd.ZQ hk
     have ok':(PL ops ts d (E e)).Ok:=D.Ok.Wi fg hd.sy
     have hq:Rel P G (Qx P G (N3 P F r d.n) K) .normal (PL ops ts d (E e)).st:=hrec _ _ _ _ _ (PL ops ts d (E e)) _ ok' h3 hr
     refine TV.rel (Q':=λe s'=>e=.normal/\s'=s) (TV.Ci hm y2 x5 x6 ⟨rfl,rfl⟩) λe s' he=>?_
     obtain⟨rfl,rfl⟩:=he
     exact hq.forget fg
    grind [Z7,absurd]
   ·simp at hr
  grind [IW]
 grind [IW]
end
end
structure Y2(w w1:World):Prop where
 size:w.heap.size<=w1.heap.size
 same:∀(B:Nat) (cs:Array Value) (e:TypeId) (fz:Nat×Nat),w.heap[B]?=some (.cells cs e fz)->w1.heap[B]?=some (.cells cs e fz)
 maps:∀(B:Nat) (es:Array MapEntry) (k:Nat),w.heap[B]?=some (.map es k)->w1.heap[B]?=some (.map es k)
theorem Y2.trans{a b c:World}(h:Y2 a b)(k:Y2 b c):Y2 a c:=⟨Nat.le_trans h.size k.size,λB cs e fz hb=>k.same B cs e fz (h.same B cs e fz hb),λB es c hb=>k.maps B es c (h.maps B es c hb)⟩
theorem Y2.row{w w1:World}(h:Y2 w w1){B:Nat}{cs:Array Value}{e:TypeId}(hr:E6 w B cs e):E6 w1 B cs e:=by
 obtain⟨fz,h1,h2⟩:=hr
 exact⟨fz,h.same _ _ _ _ h1,h2⟩
theorem Us{w:World}{B o:Nat}{v:Value}(h:cellAt w B o=some v):∃cs e fz,w.heap[B]?=some (.cells cs e fz):=by
 grind [cellAt,World.cell?]
theorem Y2.cell{w w1:World}(h:Y2 w w1){B o:Nat}{v:Value}(hc:cellAt w B o=some v):cellAt w1 B o=some v:=by
 obtain⟨cs,e,fz,hb⟩:=Us hc
 have:=h.same B cs e fz hb
 grind [cellAt,World.cell?]
theorem Y2.room{w w1:World}(h:Y2 w w1){B n:Nat}(hr:Jl w B n):Jl w1 B n:=by
 obtain⟨cs,e,fz,h1,h2⟩:=hr
 exact⟨cs,e,fz,h.same B cs e fz h1,h2⟩
theorem Y2.rep{w w1:World}(h:Y2 w w1){γ:Gh}{bs:zg}{u:zh}{c:V}{v:Value}(hr:Qj γ w bs u c v):Qj γ w1 bs u c v:=by
 induction hr with
 | data h1=>exact .data (h1.mono λB o v h1 h2=>⟨h1,h.cell h2⟩)
 | undef v=>exact .undef v
 | ref b off len B o cap k h1 h2 h3 h4 h5 h6 h7=>exact .ref b off len B o cap k h1 h2 h3 h4 (h.room h5) h6 h7
 | Jy b off B k h1 h6 h2=>exact .Jy b off B k h1 h6 h2
 | Yv b off k h1 h6 h2=>exact .Yv b off k h1 h6 h2
 | Qb b off len v h1 h2 h3=>exact .Qb b off len v h1 h2 h3
 | ptr b i off B o k h1 h2 h3=>exact .ptr b i off B o k h1 h2 h3
 | mp b B k h1 h2 h3=>exact .mp b B k h1 h2 h3
 | QV b v h1 h2 h3=>exact .QV b v h1 h2 h3
 | QW b i off v h1 h2 h3=>exact .QW b i off v h1 h2 h3
 | fn f first captured fs cs h1 h2 _ _ ih1 ih2=>exact .fn f first captured fs cs h1 h2 ih1 ih2
 | agg cells vs h1 _ ih=>exact .agg cells vs h1 ih
 | Qs cells vs h1 _ ih=>exact .Qs cells vs h1 ih
theorem Y2.right{w w1:World}(h:Y2 w w1){γ:Gh}{t:K6}{c:V}{v:Value}(hr:D0 γ w t c v):D0 γ w1 t c v:=by
 unfold D0 at hr ⊢
 split at hr
 ·rcases hr with hr|⟨h1,cs,e,h2,h3⟩
  ·exact .inl hr
  ·exact .inr ⟨h1,cs,e,h.row h2,h3⟩
 ·trivial
theorem Y2.hZ{w w1:World}(h:Y2 w w1){γ:Gh}{bs:zg}{u:zh}{b:Nat}{k:Qa}(hb:D1 γ w bs u b k):D1 γ w1 bs u b k:=by
 rcases hb with h0|hm|⟨hM,B,o,cs,e,a1,a2,a3,a4,a5,a6,a7,a8⟩
 ·exact .inl h0
 ·obtain⟨hM,B,es,clock,h1,h2,h3,h4,h5,h6,h7⟩:=hm
  refine .inr (.inl ⟨hM,B,es,clock,h1,h2,h.maps _ _ _ h3,h4,h5,h6,λi c hc=>?_⟩)
  obtain⟨v,a1,a2,a3⟩:=h7 i c hc
  exact⟨v,a1,h.rep a2,a3⟩
 ·refine .inr (.inr ⟨hM,B,o,cs,e,a1,a2,h.row a3,a4,a5,λi c hc=>?_,a7,a8⟩)
  obtain⟨x,b1,b2,b3,b4⟩:=a6 i c hc
  exact⟨x,b1,h.rep b2,b3,h.right b4⟩
theorem Y2.FV{w w1:World}(h:Y2 w w1){G:ze}{γ:Gh}{st:St}{tmps:Array Value}(hs:Qp G γ st tmps w):Qp G γ st tmps w1:=
 ⟨hs.n,λi=>h.rep (hs.t i),λb k hk=>h.hZ (hs.b b k hk),hs.u,λg cells hg=>(hs.g g cells hg).mono λ_ _ _ h1 h2=>⟨h1,h.cell h2⟩,λB x hx=>wG (hs.o B x hx) h.size⟩
theorem Qe.same{γ γ':Gh}{w w1 w2:World}(g:Qe γ w γ' w1)(h:Y2 w1 w2)(hl:∀B,B < w.heap.size->w2.heap[B]?=w1.heap[B]?)(h1:w2.os=w1.os)(h2:w2.tape=w1.tape)(h3:w2.output=w1.output):Qe γ w γ' w2 where
 os:=h1.trans g.os
 tape:=h2.trans g.tape
 output:=h3.trans g.output
 size:=Nat.le_trans g.size h.size
 NR:=λB o v hB hc=>h.cell (g.NR B o v hB hc)
 Qr:=g.Qr
 free:=λB hB ho=>by
  obtain⟨a1,a2,a3⟩:=g.free B hB ho
  grind
 room:=λB cs e fz hc=>by
  obtain⟨cs',fz',a1,a2⟩:=g.room B cs e fz hc
  grind
def Fz:Obj->Bool
 | .cells _ _ _=>true
 | .map _ _=>true
 | _=>false
theorem Y2.put{w:World}{l:Nat}{o o':Obj}(h:w.heap[l]?=some o)(hn:Fz o=false):Y2 w (w.putObj l o'):=
 ⟨by simp,λB cs e fz hb=>by
  have hne:B≠l:=λe'=>by subst e';rw[h] at hb;simp only[zx] at hb;rw[hb] at hn;cases hn
  grind [World.putObj_heap_other],λB es c hb=>by
  have hne:B≠l:=λe'=>by subst e';rw[h] at hb;simp only[zx] at hb;rw[hb] at hn;cases hn
  grind [World.putObj_heap_other]⟩
theorem Qe.put{γ γ':Gh}{w w1:World}(g:Qe γ w γ' w1){l:Nat}{o o':Obj}(h:w1.heap[l]?=some o)(hn:Fz o=false)(hl:w.heap.size<=l):Qe γ w γ' (w1.putObj l o'):=
 g.same (.put h hn) (by grind [World.putObj_heap_other]) rfl rfl rfl
theorem L2{P:Program}{fn:Func}{tmps:Array Value}{R:Ending->World->Prop}{rest:List Deferred}{u:FrameMode}(hu:u≠.run)(I:World->Prop)(hI:∀w,I w->LeavesInM (RF none) 0 P fn tmps R rest u w) :
  ∀(Ds:List Nat) (w:World),I w->Ds.Nodup->(∀D,D∈Ds->w.heap[D]?=some (.deferred (some [])))->(∀D w,D∈Ds->I w->w.heap[D]?=some (.deferred (some []))->I (w.putObj D (.deferred none)))->
   LeavesInM (RF none) 0 P fn tmps R (Ds.map ZF++rest) u w
 | [],w,h,_,_,_=>hI w h
 | D :: Ds,w,h,hn,hd,hp=>by
  refine⟨hu,.inl ⟨D,_,rfl,run_takeDeferred (hd D (by simp)),?_⟩⟩
  have hn':=List.nodup_cons.1 hn
  refine L2 hu I hI Ds _ (by grind) hn'.2 (λE hE=>?_) (by grind)
  grind [World.putObj_heap_other]
theorem ZB{P:Program}{fn:Func}{tmps:Array Value}{R:Ending->World->Prop}(I:World->Prop)(hI:∀w,I w->∃v,(results fn tmps).run P w=.ok v w/\R (.returned v) w) :
  ∀(Ds:List Nat) (w:World),I w->Ds.Nodup->(∀D,D∈Ds->w.heap[D]?=some (.deferred (some [])))->(∀D w,D∈Ds->I w->w.heap[D]?=some (.deferred (some []))->I (w.putObj D (.deferred none)))->
   LeavesInM (RF none) 0 P fn tmps R (Ds.map ZF) .returning w
 | [],w,h,_,_,_=>hI w h
 | D :: Ds,w,h,hn,hd,hp=>by
  refine⟨by simp,.inl ⟨D,_,rfl,run_takeDeferred (hd D (by simp)),?_⟩⟩
  have hn':=List.nodup_cons.1 hn
  refine ZB I hI Ds _ (by grind) hn'.2 (λE hE=>?_) (by grind)
  grind [World.putObj_heap_other]
section
variable {P:Program} {G:ze} {kp:List Nat} {rec:Rec P G} (hm:P.follows .mixedOrders=true) (hrec:BZ rec) {ρ:Type} {F:Yz ρ} {g:T P G ρ} {K:List Kf} {d:D} {r:ρ}
theorem TV.RZ{c:Code}{st:St}{Q:Exit->St->Prop}(h:TV P G c st (noGoto Q)):TV P G (.scope c) st Q:=
 (TV.scope h λl s hs=>hs.elim).mono λe s hs=>by
  cases e<;>first|exact hs.elim|exact hs
theorem CK{σ ε:Type}{S:σ->Ext}{body:σ->T P G (σ⊕ε)}{E:ε->Ext}{x:Code}{n:Nat}(hrec:BZ rec)
  (hb:∀y,(match (S y).ok&&A5 (S y).ex with
     | true=>rec _ (.VP S E) (body y) (.inl x) [] ((S y).D n)
     | false=>.stuck 69)=(body y).expect (.VP S E))
  (e0:ε) (m:Nat) (y0:σ) (hit:X3 (λy=>(body y).run) m y0=some e0):TV P G (.loop x) ((S y0).D n).st (Ug (E e0) n):=by
 have okS:∀y,(S y).ok=true/\rec _ (.VP S E) (body y) (.inl x) [] ((S y).D n)=(body y).expect (.VP S E):=(by grind [Z7,absurd])
 refine TV.loop (λm st=>∃y,st=((S y).D n).st/\X3 (λy=>(body y).run) m y=some e0) (λm st hI=>?_) (n:=m) ⟨y0,rfl,hit⟩
 obtain⟨y,rfl,hy⟩:=hI
 obtain⟨s1,s3⟩:=okS y
 cases m with
 | zero=>simp[X3] at hy
 | succ m=>
  have hy':(match (body y).run with|none=>none|some (.inl z)=>X3 (λy=>(body y).run) m z|some (.inr e)=>some e)=some e0:=hy
  cases hrun:(body y).run with
  | none=>grind
  | some z=>
   rw[hrun] at hy'
   cases z with
   | inl z=>
    simp only at hy'
    have key:TV P G x ((S y).D n).st (λe s=>A5 e=true/\Ug (S z) n e s):=hrec _ _ _ _ _ _ _ (YR s1) s3 hrun
    obtain⟨z1,_⟩:=okS z
    refine TV.rel key λe s hg=>?_
    obtain⟨g0,_,g2,g3,g4⟩:=hg
    have f:=C8 (G:=G) (s:=s) z1 g3 g4
    rw[g2] at f
    rw[Jw g0]
    exact Rel.ghost f (Rel.of ⟨m,by omega,z,rfl,hy'⟩)
   | inr e=>
    simp only[zx] at hy'
    subst hy'
    have key:TV P G x ((S y).D n).st (λe' s=>A5 e'=false/\Ug (E e) n e' s):=hrec _ _ _ _ _ _ _ (YR s1) s3 hrun
    exact key.mono (by grind [Hh,Yn])
include hrec in
theorem Js{ε:Type}{S:Sub P G ε}{e:ε}{k:T P G ρ}{c:Code}(h1:c=S.c)(h2:d.n=S.n)(hx:S.x.ok=true)(h3:WN S.x d.st=S.x.ts)(h4:WR S.x d.st=S.x.bs.map λp=>(p.1,some p.2))(he:S.o=some e)
  (h6:(match (S.E e).ok with
   | true=>rec ρ F k (.inr (S.E e).ex) K ((S.E e).D d.n)
   | false=>.stuck 64)=k.expect F) (hr:k.run=some r):TV P G c d.st (Qx P G (N3 P F r d.n) K):=by
 split at h6
 ·rename_i hok
  have key:=S.ok e he
  rw[<-h1,<-h2] at key
  have hq:Rel P G (Qx P G (N3 P F r d.n) K) (S.E e).ex ((S.E e).D d.n).st:=hrec _ _ _ _ _ ((S.E e).D d.n) _ (YR hok) h6 hr
  refine TV.ghost (C8 (s:=d.st) hx h3 h4) (TV.rel key λe' s hg=>?_)
  obtain⟨g1,g2⟩:=hg
  rw[g1]
  exact hq.ghost g2
 grind [Z7,absurd]
include hrec in
theorem Vy{c:Code}(hd:d.Ok)(h:sxN rec F g c K d=g.expect F)(hr:g.run=some r):TV P G c d.st (Qx P G (N3 P F r d.n) K):=by
 unfold sxN at h
 split at h
 ·rename_i o x y
  split at h
  ·rename_i a' c' a b
   split at h
   ·rename_i c hc
    simp only[T.expect,C.br.injEq] at h
    obtain⟨rfl,h1,h2⟩:=h
    simp only[T.run] at hr
    refine TV.cond hc ?_
    cases c with
    | true=>exact hrec _ _ _ _ _ _ _ hd h1 (by simpa using hr)
    | false=>exact hrec _ _ _ _ _ _ _ hd h2 (by simpa using hr)
   grind [Z7,absurd]
  ·rename_i k
   split at h
   ·rename_i c hc
    split at h
    ·refine TV.cond hc ?_
     exact hrec _ _ _ _ _ _ _ hd (by simpa[T.expect] using h) (by simpa[T.run] using hr)
    grind [Z7,absurd]
   grind [Z7,absurd]
  ·rename_i k
   split at h
   ·rename_i c hc
    split at h
    ·refine TV.cond hc ?_
     exact hrec _ _ _ _ _ _ _ hd (by simpa[T.expect] using h) (by simpa[T.run] using hr)
    grind [Z7,absurd]
   grind [Z7,absurd]
  grind [Z7,absurd]
 ·exact TV.block (hrec _ _ _ _ _ _ _ hd h hr)
 ·exact TV.RZ (hrec _ _ _ _ _ _ _ hd h hr)
 ·rename_i x
  split at h
  ·rename_i σ S body x0
   split at h
   ·rename_i E
    split at h
    ·simp only[T.expect,C.loop.injEq,heq_eq_eq,true_and] at h
     obtain⟨h1,h2,h3⟩:=h
     simp only[T.run] at hr
     have hb:=λy=>congrFun h3 y
     have s1:(S x0).ok=true:=by
      grind [Z7,absurd]
     exact TV.ghost (C8 (s:=d.st) s1 h1 h2) (CK hrec hb r ZO x0 hr)
    grind [Z7,absurd]
   grind [Z7,absurd]
  ·exact TV.Aa (hrec _ _ _ _ _ _ _ hd h hr)
 ·split at h
  ·rename_i ε S k
   split at h
   ·rename_i hx
    simp only[T.expect,C.sub.injEq,heq_eq_eq,true_and] at h
    obtain⟨h1,h2,h3,h4,h5⟩:=h
    simp only[T.run] at hr
    split at hr
    ·rename_i e he
     exact Js hrec h1 h2 hx h3 h4 he (congrFun h5 e) hr
    ·simp at hr
   grind [Z7,absurd]
  ·rename_i ε ζ S k k2
   split at h
   ·rename_i hx
    simp only[T.expect,C.Ez.injEq,heq_eq_eq,true_and] at h
    obtain⟨h1,h2,h3,h4,h5,h6⟩:=h
    simp only[T.run] at hr
    split at hr
    ·rename_i e he
     exact Js hrec h1 h2 hx h3 h4 he (congrFun h5 e) hr
    ·rename_i e he
     exact Js hrec h1 h2 hx h3 h4 he (congrFun h6 e) hr
    ·simp at hr
   grind [Z7,absurd]
  grind [Z7,absurd]
 grind [Z7,absurd]
include hrec in
theorem EW{ε:Type}{E:ε->Ext}{E':Ext}{e:ε}{first:T P G ε}{k:T P G ρ}{c:Code}(hd:d.Ok)(h1:rec _ (.LU E) first (.inl c) [] d=first.expect (.LU E))(he:first.run=some e)(hE:E e=E')
  (h3:(match E'.ok with
   | true=>rec ρ F k (.inr E'.ex) K (E'.D d.n)
   | false=>.stuck 64)=k.expect F) (hr:k.run=some r):TV P G c d.st (Qx P G (N3 P F r d.n) K):=by
 subst hE
 split at h3
 ·rename_i hok
  have key:TV P G c d.st (N3 P (.LU E) e d.n):=hrec _ _ _ _ _ _ _ hd h1 he
  have hq:Rel P G (Qx P G (N3 P F r d.n) K) (E e).ex ((E e).D d.n).st:=hrec _ _ _ _ _ ((E e).D d.n) _ (YR hok) h3 hr
  refine TV.rel key λe' s hg=>?_
  obtain⟨g1,g2,g3,g4⟩:=hg
  have f:=C8 (G:=G) (s:=s) hok g3 g4
  rw[g2] at f
  rw[g1]
  exact hq.ghost f
 grind [Z7,absurd]
include hrec in
theorem Vh{c:Code}(hd:d.Ok)(h:sxB rec F g c K d=g.expect F)(hr:g.run=some r):TV P G c d.st (Qx P G (N3 P F r d.n) K):=by
 unfold sxB at h
 split at h
 ·rename_i ε first E k
  simp only[T.expect,C.bind.injEq,heq_eq_eq,true_and] at h
  obtain⟨h1,h2⟩:=h
  simp only[T.run] at hr
  split at hr
  ·rename_i e he
   exact EW hrec hd h1 he rfl (congrFun h2 e) hr
  ·simp at hr
 ·rename_i ε ζ first E E2 k k2
  simp only[T.expect,C.QD.injEq,heq_eq_eq,true_and] at h
  obtain⟨h1,h2,h3⟩:=h
  simp only[T.run] at hr
  split at hr
  ·rename_i e he
   exact EW hrec hd h1 he rfl (congrFun h2 e) hr
  ·rename_i e he
   exact EW hrec hd h1 he rfl (congrFun h3 e) hr
  ·simp at hr
 ·rename_i ε ζ j first E E2 k k2
  have hr':(T.QD j first E E2 k k2).run=some r:=by grind [T.run]
  have ex':(T.QD j first E E2 k k2).expect F=(T.QD (j+1) first E E2 k k2).expect F:=by simp only[T.expect]
  rw[<-ex'] at h
  split at h
  ·exact TV.block (hrec _ _ _ _ _ _ _ hd h hr')
  ·exact TV.RZ (hrec _ _ _ _ _ _ _ hd h hr')
  ·exact TV.Aa (hrec _ _ _ _ _ _ _ hd h hr')
  grind [Z7,absurd]
 ·rename_i ε j first E k
  have hr':(T.bind j first E k).run=some r:=by grind [T.run]
  have ex':(T.bind j first E k).expect F=(T.bind (j+1) first E k).expect F:=by simp only[T.expect]
  rw[<-ex'] at h
  split at h
  ·exact TV.block (hrec _ _ _ _ _ _ _ hd h hr')
  ·exact TV.RZ (hrec _ _ _ _ _ _ _ hd h hr')
  ·exact TV.Aa (hrec _ _ _ _ _ _ _ hd h hr')
  grind [Z7,absurd]
 grind [Vy]
include hrec in
theorem Xl{c:Code}(_:d.Ok)(h:Ss rec F g c K d=g.expect F)(hr:g.run=some r):TV P G c d.st (Qx P G (N3 P F r d.n) K):=by
 unfold Ss at h
 split at h
 ·rename_i ε S k
  split at h
  ·rename_i hx
   simp only[T.expect,C.sub.injEq,heq_eq_eq,true_and] at h
   obtain⟨h1,h2,h3,h4,h5⟩:=h
   simp only[T.run] at hr
   split at hr
   ·rename_i e he
    exact Js hrec h1 h2 hx h3 h4 he (congrFun h5 e) hr
   ·simp at hr
  grind [Z7,absurd]
 ·rename_i ε ζ S k k2
  split at h
  ·rename_i hx
   simp only[T.expect,C.Ez.injEq,heq_eq_eq,true_and] at h
   obtain⟨h1,h2,h3,h4,h5,h6⟩:=h
   simp only[T.run] at hr
   split at hr
   ·rename_i e he
    exact Js hrec h1 h2 hx h3 h4 he (congrFun h5 e) hr
   ·rename_i e he
    exact Js hrec h1 h2 hx h3 h4 he (congrFun h6 e) hr
   ·simp at hr
  grind [Z7,absurd]
 grind [Z7,absurd]
include hrec hm in
theorem Vu{c:Code}(hd:d.Ok)(h:sxC kp rec F g c K d=g.expect F)(hr:g.run=some r):TV P G c d.st (Qx P G (N3 P F r d.n) K):=by
 unfold sxC at h
 split at h
 ·exact TV.Qqs (hrec _ _ _ _ _ _ _ hd h hr)
 ·exact TV.cJ (hrec _ _ _ _ _ _ _ hd h hr)
 ·exact TV.Qhq (hrec _ _ _ _ _ _ _ hd h hr)
 ·exact TV.Qkq (hrec _ _ _ _ _ _ _ hd h hr)
 ·split at h
  ·grind [Xl]
  ·exact TV.seq (hrec _ _ _ _ _ _ _ hd h hr)
 ·grind [Vz]
 grind [Vh]
theorem AN.ghost{Q:Exit->St->Prop}{cur:Code⊕Exit}{st st':St}(g:QU G st st')(h:AN P G Q cur K st'):AN P G Q cur K st:=by
 cases cur with
 | inl c=>exact TV.ghost g h
 | inr e=>exact Rel.ghost (P:=P) g h
include hrec hm in
theorem KR{cur:Code⊕Exit}(hd:d.Ok)(h:sxD kp rec F g cur K d=g.expect F)(hr:g.run=some r):AN P G (N3 P F r d.n) cur K d.st:=by
 unfold sxD at h
 split at h
 ·exact Vj hrec hd h hr
 ·exact Vu hm hrec hd h hr
include hrec hm in
theorem Vq{cur:Code⊕Exit}(hd:d.Ok)(h:sxS kp rec F g cur K d=g.expect F)(hr:g.run=some r):AN P G (N3 P F r d.n) cur K d.st:=by
 unfold sxS at h
 split at h
 ·simp[T.run] at hr
 ·rename_i p i k
  simp only[T.expect,C.fact.injEq,heq_eq_eq,true_and] at h
  cases i with
  | isTrue hp=>exact hrec _ _ _ _ _ _ _ hd (congrFun h hp) hr
  | isFalse hp=>simp[T.run] at hr
 ·rename_i a c x y
  split at h
  ·simp only[T.expect,C.br.injEq] at h
   obtain⟨_,h1,h2⟩:=h
   simp only[T.run] at hr
   cases c with
   | true=>exact hrec _ _ _ _ _ _ _ hd h1 (by simpa using hr)
   | false=>exact hrec _ _ _ _ _ _ _ hd h2 (by simpa using hr)
  ·split at h
   ·split at h
    ·simp only[T.expect,C.br.injEq] at h
     obtain⟨_,h1,h2⟩:=h
     simp only[T.run] at hr
     cases c with
     | true=>exact Xl hrec hd h1 (by simpa using hr)
     | false=>exact hrec _ _ _ _ _ _ _ hd h2 (by simpa using hr)
    grind [KR]
   grind [KR]
 ·rename_i a w k
  split at h
  ·simp only[T.expect,C.gh.injEq] at h
   obtain⟨h1,h2⟩:=h
   obtain⟨d',x1,x2,x3,x4⟩:=jX (G:=G) h2 (λj=>Z7 F k j) h1 hd
   have:=hrec _ _ _ _ _ _ _ x2 x1 (by simpa[T.run] using hr)
   rw[x4] at this
   exact this.ghost x3
  grind [KR]
 grind [KR]
end
theorem FG{P:Program}{G:ze}{kp:List Nat}(hm:P.follows .mixedOrders=true):∀n,BZ (sx P G kp n)
 | 0=>λ_ F g _ _ _ _ _ h _=>absurd h (Z7 F g 99)
 | n+1=>λ_ _ _ _ _ _ _ hd h hr=>Vq hm (FG hm n) hd h hr
def H2(args:List V):List (Nat×V):=args.zipIdx.map λx=>(x.2,x.1)
def fnC(P:Program)(G:ze)(kp:List Nat)(fn:Func)(args:List V)(x:Ext){ρ:Type}(g:T P G ρ)(res:ρ->V)(outs:ρ->List (Nat×Qa)):Bool×C:=
 (fn.body.isSome&&(x.ok&&x.bs.all λp=>decide (1000000<=p.1)),sx P G kp 100000 ρ (.fn fn.results.toList res outs) g (.inl (fn.body.getD .skip)) [] (x.D (max fn.ntmps args.length)))
theorem Ut:∀(args:List V) (k i:Nat),(match ((args.zipIdx k).map λx=>(x.2,x.1)).find? (λp=>p.1==i+k) with|some p=>p.2|none=>V.undef)=args.getD i .undef
 | [],k,i=>rfl
 | v :: args,k,i=>by
  simp only[List.zipIdx_cons,wk]
  cases i with
  | zero=>simp
  | succ i=>
   rw[List.find?_cons_of_neg (by simp)]
   have:=Ut args (k+1) i
   grind
theorem KH{P:Program}{G:ze}{f:FuncId}{fn:Func}{c:Code}{n:Nat}{args:List V}{ins:zg}{res:V}{outs:zg}
  (hf:P.funcs[f]?=some fn) (hb:fn.body=some c) (hn:n=max fn.ntmps args.length)
  (h:∀(γ:Gh) (a:Act) (w:World),Qp G γ (U3 n args ins) a.tmps w->a.defers=[]->CW none P c (λe a' w'=>∃v0,D4 8 res v0=res/\O5 G ⟨none,[],true⟩ γ (U3 n args ins) w (NN P fn.results.toList v0 outs) e a' w') a w):QR P G f args ins res outs:=by
 intro γ w as hg ho ha hbl
 have hsz:as.size=args.length:=ha.1
 have hs:Qp G γ (U3 n args ins) (as++Array.replicate (fn.ntmps - as.size) undef) w:=by
  refine⟨by grind [Array.size_append,Array.size_replicate,U3],λi=>?_,λb k hk=>(hbl b k hk).2,λb k hk=>(hbl b k hk).1,hg,ho⟩
  show Qj γ w ins Qw (args.getD i .undef) _
  by_cases hi:i < args.length
  ·have e1:args.getD i .undef=args[i]:=by grind
   have e2:(as++Array.replicate (fn.ntmps - as.size) undef).getD i undef=as[i]'(by omega):=by
    simp_all [wn,Array.getElem?_append_left,wd]
   rw[e1,e2]
   exact ha.2 i _ _ (by grind) (by grind)
  ·have e1:args.getD i .undef=.undef:=by grind
   rw[e1];exact .undef _
 refine(callsIn_wide (n:=0)).1 (callsIn_of_wp_marks hf hb trivial (wpIn_mono (h γ ⟨as++Array.replicate (fn.ntmps - as.size) undef,[]⟩ w hs rfl) λe a' w' hl=>?_))
 obtain⟨v0,hv0,st',γ',h1,⟨h2,h2p⟩,⟨Ds,_,m1,m2,m3⟩,he,hr,hout⟩:=hl
 have ble:L5 γ' st'.b st'.u γ' outs (λ_=>true):=by
  refine⟨λ_ _=>rfl,λb _ hn=>?_,λb k hk=>⟨rfl,?_⟩⟩
  ·cases ho:outs b with
   | none=>rfl
   | some k=>grind
  ·cases ho:outs b with
   | none=>exact .inl rfl
   | some k'=>
    grind
 have fin:LeavesInM (RF none) 0 P fn a'.tmps (λe w'=>∃v γ',e=.returned v/\Qe γ w γ' w'/\Zg γ ins Qw γ' outs (λ_=>true)/\Qj γ' w' outs (λ_=>true) res v/\
   (∀b k,outs b=some k->D1 γ' w' outs (λ_=>true) b k)/\(∀B x,γ'.own B=some x->B < w'.heap.size)) a'.defers .returning w':=by
  rw[m1,wy]
  refine ZB (λw''=>Qp G γ' st' a'.tmps w''/\Qe γ w γ' w'') (λw'' hI=>?_) Ds w' ⟨h1,h2⟩ m2 (λD hD=>(m3 D hD).2.1) λD w'' hD hI hd=>
   ⟨(Y2.put hd rfl).FV hI.1,hI.2.put hd rfl (m3 D hD).1⟩
  obtain⟨i1,i2⟩:=hI
  obtain⟨v,hv,hrep⟩:=R9 (P:=P) i1 hr
  refine⟨v,hv,v,γ',rfl,i2,h2p.trans ble.JQ,(by have:=HF 8 res v0 v (hrep.mono (.refl _ _) ble);grind),λb k hk=>?_,i1.o⟩
  rcases i1.b b k (hout b k hk) with h0|hm|⟨hM,B,o,cs,e,a1,a2,a3,a4,a5,a6,a7,a8⟩
  ·exact .inl h0
  ·exact .inr (.inl (hm.same rfl (by grind) λc v hr=>hr.mono (.refl _ _) ble))
  refine .inr (.inr ⟨hM,B,o,cs,e,a1,a2,a3,a4,a5,λi c hc=>?_,a7,a8⟩)
  obtain⟨x,b1,b2,b3,b4⟩:=a6 i c hc
  exact⟨x,b1,b2.mono (.refl _ _) ble,b3,b4⟩
 rcases he with rfl|rfl
 ·exact fin
 ·exact fin
theorem PR{P:Program}{G:ze}{f:FuncId}{fn:Func}{c:Code}{n:Nat}{args:List V}{ins:zg}{v:List PanicEntry}{outs:zg}
  (hf:P.funcs[f]?=some fn) (hb:fn.body=some c) (hn:n=max fn.ntmps args.length)
  (h:∀(γ:Gh) (a:Act) (w:World),Qp G γ (U3 n args ins) a.tmps w->a.defers=[]->CW none P c (O5 G ⟨none,[],true⟩ γ (U3 n args ins) w λe s=>e=.panic v/\∀b k,outs b=some k->s.b b=some k) a w) :
  MR P G f args ins v outs:=by
 intro γ w as hg ho ha hbl
 have hsz:as.size=args.length:=ha.1
 have hs:Qp G γ (U3 n args ins) (as++Array.replicate (fn.ntmps - as.size) undef) w:=by
  refine⟨by grind [Array.size_append,Array.size_replicate,U3],λi=>?_,λb k hk=>(hbl b k hk).2,λb k hk=>(hbl b k hk).1,hg,ho⟩
  show Qj γ w ins Qw (args.getD i .undef) _
  by_cases hi:i < args.length
  ·have e1:args.getD i .undef=args[i]:=by grind
   have e2:(as++Array.replicate (fn.ntmps - as.size) undef).getD i undef=as[i]'(by omega):=by
    simp_all [wn,Array.getElem?_append_left,wd]
   rw[e1,e2]
   exact ha.2 i _ _ (by grind) (by grind)
  ·have e1:args.getD i .undef=.undef:=by grind
   rw[e1];exact .undef _
 refine(callsIn_wide (n:=0)).1 (callsIn_of_wp_marks hf hb trivial (wpIn_mono (h γ ⟨as++Array.replicate (fn.ntmps - as.size) undef,[]⟩ w hs rfl) λe a' w' hl=>?_))
 obtain⟨st',γ',h1,⟨h2,h2p⟩,⟨Ds,_,m1,m2,m3⟩,rfl,hout⟩:=hl
 have ble:L5 γ' st'.b st'.u γ' outs (λ_=>true):=by
  refine⟨λ_ _=>rfl,λb _ hn=>?_,λb k hk=>⟨rfl,?_⟩⟩
  ·cases ho:outs b with
   | none=>rfl
   | some k=>grind
  ·cases ho:outs b with
   | none=>exact .inl rfl
   | some k'=>
    grind
 show LeavesInM (RF none) 0 P fn a'.tmps _ a'.defers (.panicking v) w'
 rw[m1]
 refine L2 (u:=.panicking v) (by simp) (λw''=>Qp G γ' st' a'.tmps w''/\Qe γ w γ' w'') (λw'' hI=>?_) Ds w' ⟨h1,h2⟩ m2 (λD hD=>(m3 D hD).2.1) λD w'' hD hI hd=>
  ⟨(Y2.put hd rfl).FV hI.1,hI.2.put hd rfl (m3 D hD).1⟩
 obtain⟨i1,i2⟩:=hI
 refine⟨undef,γ',rfl,i2,h2p.trans ble.JQ,.undef _,λb k hk=>?_,i1.o⟩
 rcases i1.b b k (hout b k hk) with h0|hm|⟨hM,B,o,cs,e,a1,a2,a3,a4,a5,a6,a7,a8⟩
 ·exact .inl h0
 ·exact .inr (.inl (hm.same rfl (by grind) λc v hr=>hr.mono (.refl _ _) ble))
 refine .inr (.inr ⟨hM,B,o,cs,e,a1,a2,a3,a4,a5,λi c hc=>?_,a7,a8⟩)
 obtain⟨x,b1,b2,b3,b4⟩:=a6 i c hc
 exact⟨x,b1,b2.mono (.refl _ _) ble,b3,b4⟩
theorem uE{n:Nat}{args:List V}{x:Ext}(hx:x.ts=H2 args)(h3:∀p,p∈x.bs->1000000<=p.1):(x.D n).st=U3 n args (Qm x.bs):=by
 unfold D.st Ext.D E1 U3
 simp only[St.mk.injEq,true_and]
 refine⟨funext λi=>?_,rfl,funext λi=>?_⟩
 ·rw[hx]
  have:=Ut args 0 i
  exact this
 ·cases hu:Qw i with
  | true=>simp
  | false=>
   simp only[Bool.or_false]
   refine Bool.eq_false_iff.2 λhc=>?_
   simp only[Ext.us,zZ,zA] at hc
   obtain⟨p,hp,rfl⟩:=zG.1 hc
   grind [Qw]
def vQ(P:Program)(G:ze)(kp:List Nat)(fn:Func)(args:List V)(x:Ext){α β:Type}(g:T P G (α⊕β))(res:α->V)(outs:α->List (Nat×Qa))(UD:β->List PanicEntry)(Zh:β->List (Nat×Qa)):Bool×C:=
 (fn.body.isSome&&(x.ok&&x.bs.all λp=>decide (1000000<=p.1)),sx P G kp 100000 (α⊕β) (.iE fn.results.toList res outs (λz=>.panic (UD z)) Zh) g (.inl (fn.body.getD .skip)) [] (x.D (max fn.ntmps args.length)))
theorem jC{P:Program}{G:ze}{kp:List Nat}(hm:P.follows .mixedOrders=true){f:FuncId}{fn:Func}(hf:P.funcs[f]?=some fn){args:List V}{x:Ext}(hx:x.ts=H2 args){α β:Type}{g:T P G (α⊕β)}
  {res:α->V} {outs:α->List (Nat×Qa)} {UD:β->List PanicEntry} {Zh:β->List (Nat×Qa)} (h:vQ P G kp fn args x g res outs UD Zh=(true,g.expect (.iE fn.results.toList res outs (λz=>.panic (UD z)) Zh))) :
  (∀r,g.run=some (.inl r)->QR P G f args (Qm x.bs) (res r) (Qm (outs r)))/\∀z,g.run=some (.inr z)->MR P G f args (Qm x.bs) (UD z) (Qm (Zh z)):=by
 simp only[vQ,zI,zD,zF,zA] at h
 obtain⟨⟨h1,h2,h3⟩,h4⟩:=h
 obtain⟨c,hc⟩:=Option.isSome_iff_exists.1 h1
 rw[hc] at h4
 have e:=uE (n:=max fn.ntmps args.length) hx h3
 have key:∀q,g.run=some q->TV P G c (U3 (max fn.ntmps args.length) args (Qm x.bs)) (N3 P (.iE fn.results.toList res outs (λz=>.panic (UD z)) Zh) q (max fn.ntmps args.length)):=λq hr=>by
  have:=FG hm 100000 _ _ _ _ _ _ _ (YR h2) h4 hr
  rw[<-e];exact this
 constructor
 ·intro r hr
  refine KH hf hc rfl λγ a w hs hd=>wpIn_mono (key _ hr ⟨none,[],true⟩ γ a w hs ⟨hd,rfl,λ_ h=>by simp at h⟩) λe a' w' hl=>?_
  obtain⟨st',γ',k1,k2,k3,v0,k4,k5⟩:=hl
  exact⟨v0,k4,st',γ',k1,k2,k3,k5⟩
 ·intro z hr
  exact PR hf hc rfl λγ a w hs hd=>key _ hr ⟨none,[],true⟩ γ a w hs ⟨hd,rfl,λ_ h=>by simp at h⟩
theorem lO{P:Program}{G:ze}{kp:List Nat}(hm:P.follows .mixedOrders=true){f:FuncId}{fn:Func}(hf:P.funcs[f]?=some fn){args:List V}{x:Ext}(hx:x.ts=H2 args){ρ:Type}{g:T P G ρ}
  {res:ρ->V} {outs:ρ->List (Nat×Qa)} (h:fnC P G kp fn args x g res outs=(true,g.expect (.fn fn.results.toList res outs))):∀r,g.run=some r->QR P G f args (Qm x.bs) (res r) (Qm (outs r)):=by
 intro r hr
 simp only[fnC,zI,zD,zF,zA] at h
 obtain⟨⟨h1,h2,h3⟩,h4⟩:=h
 obtain⟨c,hc⟩:=Option.isSome_iff_exists.1 h1
 rw[hc] at h4
 have key:TV P G c (x.D (max fn.ntmps args.length)).st (N3 P (.fn fn.results.toList res outs) r _):=FG hm 100000 _ _ _ _ _ _ _ (YR h2) h4 hr
 have e:(x.D (max fn.ntmps args.length)).st=U3 (max fn.ntmps args.length) args (Qm x.bs):=by
  unfold D.st Ext.D E1 U3
  simp only[St.mk.injEq,true_and]
  refine⟨funext λi=>?_,rfl,funext λi=>?_⟩
  ·rw[hx]
   have:=Ut args 0 i
   exact this
  ·cases hu:Qw i with
   | true=>simp
   | false=>
    simp only[Bool.or_false]
    refine Bool.eq_false_iff.2 λhc=>?_
    simp only[Ext.us,zZ,zA] at hc
    obtain⟨p,hp,rfl⟩:=zG.1 hc
    grind [Qw]
 rw[e] at key
 intro γ w as hg ho ha hbl
 have key2:∀(γ:Gh) (a:Act) (w:World),Qp G γ (U3 (max fn.ntmps args.length) args (Qm x.bs)) a.tmps w->a.defers=[]->
   CW none P c (λe a' w'=>∃v0,D4 8 (res r) v0=res r/\O5 G ⟨none,[],true⟩ γ (U3 (max fn.ntmps args.length) args (Qm x.bs)) w (NN P fn.results.toList v0 (Qm (outs r))) e a' w') a w:=λγ a w hs hd=>
  wpIn_mono (key ⟨none,[],true⟩ γ a w hs ⟨hd,rfl,λ_ h=>by simp at h⟩) λe a' w' hl=>by
   obtain⟨st',γ',k1,k2,k3,v0,k4,k5⟩:=hl
   exact⟨v0,k4,st',γ',k1,k2,k3,k5⟩
 exact KH hf hc rfl key2 γ w as hg ho ha hbl
def gU(P:Program)(G:ze)(kp:List Nat)(fn:Func)(args:List V){ρ:Type}(g:T P G ρ)(res:ρ->V):Prop:=
 fnC P G kp fn args (Ext.l .normal (H2 args) []) g res (λ_=>[])=(true,g.expect (.fn fn.results.toList res λ_=>[]))
def Spec.ofFn{P:Program}{G:ze}{kp:List Nat}(f:FuncId){fn:Func}{args:List V}{ρ:Type}{g:T P G ρ}{res:ρ->V}(hm:P.follows .mixedOrders=true)(hf:P.funcs[f]?=some fn)(k:gU P G kp fn args g res):Spec P G ρ:=
 ⟨f,args,[],g.run,res,λ_=>[],[],λ_ _ h=>by simp at h,lO hm hf rfl k⟩
def WK(P:Program)(G:ze)(kp:List Nat)(fn:Func)(args:List V)(x:Ext){ρ:Type}(g:T P G ρ)(res:ρ->V)(O:ρ->Ext):Prop:=
 fnC P G kp fn args x g res (λr=>(O r).bs)=(true,g.expect (.fn fn.results.toList res λr=>(O r).bs))
def Spec.ZL{P:Program}{G:ze}{kp:List Nat}(f:FuncId){fn:Func}{args:List V}{x:Ext}{ρ:Type}{g:T P G ρ}{res:ρ->V}{O:ρ->Ext}(dt:List Nat)(hm:P.follows .mixedOrders=true)(hf:P.funcs[f]?=some fn)(hx:x.ts=H2 args)
  (hdt:∀r,((O r).bs.all λp=>!dt.contains p.1 || (O r).dt.contains p.1)=true) (k:WK P G kp fn args x g res O):Spec P G ρ:=
 ⟨f,args,x.bs,g.run,res,λr=>(O r).bs,dt,λr p hp hd=>(O r).JN p hp (by
  grind),lO hm hf hx k⟩
def UU(P:Program)(G:ze)(kp:List Nat)(fn:Func)(args:List V)(x:Ext){α β:Type}(g:T P G (α⊕β))(res:α->V)(O:α->Ext)(UD:β->List PanicEntry)(OP:β->Ext):Prop:=
 vQ P G kp fn args x g res (λr=>(O r).bs) UD (λr=>(OP r).bs)=(true,g.expect (.iE fn.results.toList res (λr=>(O r).bs) (λz=>.panic (UD z)) λr=>(OP r).bs))
def O0.ofFn{P:Program}{G:ze}{kp:List Nat}(f:FuncId){fn:Func}{args:List V}{x:Ext}{α β:Type}{g:T P G (α⊕β)}{res:α->V}{O:α->Ext}{UD:β->List PanicEntry}{OP:β->Ext}(dt:List Nat)(hm:P.follows .mixedOrders=true)(hf:P.funcs[f]?=some fn)(hx:x.ts=H2 args)
  (hdt:∀r,((O r).bs.all λp=>!dt.contains p.1 || (O r).dt.contains p.1)=true) (hdp:∀r,((OP r).bs.all λp=>!dt.contains p.1 || (OP r).dt.contains p.1)=true) (k:UU P G kp fn args x g res O UD OP):O0 P G α β:=
 ⟨f,args,x.bs,g.run,res,λr=>(O r).bs,UD,λr=>(OP r).bs,dt,λr p hp hd=>(O r).JN p hp (by
  grind),λr p hp hd=>(OP r).JN p hp (by
  grind),(jC hm hf hx k).1,(jC hm hf hx k).2⟩
def Q0(n:Int):Int:=IntKind.i64.wrap n
def Z3(n:Int):Int:=IntKind.u64.wrap n
def I2(n:Int):Int:=IntKind.u32.wrap n
def Qk(n:Int):Int:=IntKind.u8.wrap n
def bs(l:List UInt8):za:=⟨⟨l⟩⟩
def QQ(s:za)(i:Int):Int:=(s.data.getD i.toNat 0).toNat
def J9(k:IntKind)(a b:Int):Int:=k.wrap (BitVec.ofInt k.bits a &&& BitVec.ofInt k.bits b).toNat
def Zf(k:IntKind)(a b:Int):Int:=k.wrap (BitVec.ofInt k.bits a ||| BitVec.ofInt k.bits b).toNat
def F4(k:IntKind)(a b:Int):Int:=k.wrap (BitVec.ofInt k.bits a ^^^ BitVec.ofInt k.bits b).toNat
def M1(k:IntKind)(a b:Int):Int:=k.wrap (a * 2 ^ (min b.toNat k.bits))
def Z5(k:IntKind)(a b:Int):Int:=a.fdiv (2 ^ (min b.toNat k.bits))
def yN{α:Type}(t:Ty α)(l:List α):Nat:=(l.map t.c).length
def M6{α:Type}(t:Ty α)(l:List α):Int:=(yN t l:Nat)
theorem YI{α:Type}(t:Ty α)(l:List α):M6 t l=(l.length:Int):=by simp[M6,yN]
def Yt.put{α:Type}(i z:Nat)(t:Ty α)(l:List α)(j:Nat)(y:α):Yt:=
 ⟨[.b i (some ⟨z,true,(l.map t.c).set j (t.c y)⟩)],[.b i (some ⟨z,true,(l.set j y).map t.c⟩)],by rw[List.map_set],[i],λb k h _=>by
  simp only[wm,Wr.b.injEq,zx] at h
  obtain⟨_,rfl⟩:=h
  exact t.data _⟩
theorem Qj.mL{γ:Gh}{w:World}{bs:zg}{u:zh}{l:Nat}{v:Value}(h:Qj γ w bs u (.QP l) v):v=.func (.yield l) #[] #[]:=by
 cases h with
 | data h=>cases h;rfl
theorem Qj.JQ{γ γ':Gh}{w w':World}{bs bs':zg}{u u':zh}(g:Qe γ w γ' w')(hp:Zg γ bs u γ' bs' u'){c:V}{v:Value}(h:Qj γ w bs u c v):okV D7 c=true->Qj γ' w' bs' u' c v:=by
 have top:∀{b},D7 b=true->D7 b=true:=λh=>h
 induction h with
 | data h=>exact λ_=>.data (g.data h)
 | undef v=>exact λ_=>.undef v
 | ref b off len B o cap k h1 h2 h3 h4 h5 h6 h7=>
  intro ho
  simp only[okV] at ho
  obtain⟨_,_,hk⟩:=hp b (top ho)
  obtain⟨hu,hk⟩:=hk k h1
  rcases hk with hk|⟨k',hk,hs,hr,hl⟩
  ·exact .Qb b off len _ hk hu rfl
  ·rw[<-hs]
   exact .ref b off len B o cap k' hk (hl.trans h2) (by grind) h4 (g.VR (by grind)) (by grind) (by grind)
 | Jy b off B k h1 h6 h2=>
  intro ho
  simp only[okV] at ho
  obtain⟨_,_,hk⟩:=hp b (top ho)
  obtain⟨hu,hk⟩:=hk k h1
  rcases hk with hk|⟨k',hk,hs,hr,hl⟩
  ·exact .Qb b off 0 _ hk hu rfl
  ·exact .Jy b off B k' hk (by grind) ((hr h6).trans h2)
 | Yv b off k h1 h6 h2=>
  intro ho
  simp only[okV] at ho
  obtain⟨_,_,hk⟩:=hp b (top ho)
  obtain⟨hu,hk⟩:=hk k h1
  rcases hk with hk|⟨k',hk,hs,hr,hl⟩
  ·exact .Qb b off 0 _ hk hu rfl
  ·exact .Yv b off k' hk (by grind) ((hr h6).trans h2)
 | Qb b off len v h1 h2 h3=>
  intro ho
  simp only[okV] at ho
  obtain⟨hu,hg,_⟩:=hp b (top ho)
  exact .Qb b off len v (hg h2 h1) (hu h2) h3
 | ptr b i off B o k h1 h2 h3=>
  intro ho
  simp only[okV] at ho
  obtain⟨_,_,hk⟩:=hp b (top ho)
  obtain⟨hu,hk⟩:=hk k h1
  rcases hk with hk|⟨k',hk,hs,hr,hl⟩
  ·exact .QW b i off _ hk hu rfl
  ·rw[<-hs];exact .ptr b i off B o k' hk (hl.trans h2) (by grind)
 | mp b B k h1 h2 h3=>
  intro ho
  simp only[okV] at ho
  obtain⟨_,_,hk⟩:=hp b (top ho)
  obtain⟨hu,hk⟩:=hk k h1
  rcases hk with hk|⟨k',hk,hs,hr,hl⟩
  ·exact .QV b _ hk hu rfl
  ·exact .mp b B k' hk (hl.trans h2) (by grind)
 | QV b v h1 h2 h3=>
  intro ho
  simp only[okV] at ho
  obtain⟨hu,hg,_⟩:=hp b (top ho)
  exact .QV b v (hg h2 h1) (hu h2) h3
 | QW b i off v h1 h2 h3=>
  intro ho
  simp only[okV] at ho
  obtain⟨hu,hg,_⟩:=hp b (top ho)
  exact .QW b i off v (hg h2 h1) (hu h2) h3
 | fn f first captured fs cs h1 h2 _ _ ih1 ih2=>
  intro ho
  simp only[okV,zD] at ho
  exact .fn f first captured fs cs h1 h2 (by grind [ZS]) (by grind [ZS])
 | agg cells vs h1 _ ih=>intro ho;exact .agg cells vs h1 (by grind [ZS,okV])
 | Qs cells vs h1 _ ih=>intro ho;exact .Qs cells vs h1 (by grind [ZS,okV])
def M5(n:Nat)(t:Nat->V)(b:zg):St:=⟨n,t,b,Qw⟩
theorem Qp.resume{G:ze}{γ γ':Gh}{w w':World}{n m:Nat}{t t':Nat->V}{b b':zg}{te tm:Array Value}(h:Qp G γ (M5 n t b) te w)(ht:∀i,okV D7 (t i)=true)
  (g:Qe γ w γ' w') (hp:Zg γ b Qw γ' b' Qw) (h':Qp G γ' (M5 m t' b') tm w'):Qp G γ' (M5 n t b') te w':=
 ⟨h.n,λi=>(h.t i).JQ g hp (ht i),h'.b,h'.u,h'.g,h'.o⟩
def WY(st:St)(l:List (Nat×V)):St:=l.foldl (λst p=>st.QG p.1 p.2) st
theorem Qp.WY{G:ze}{γ:Gh}{w:World}:∀{ps:List Nat} {cs:List V} {vs:List Value} {st:St} {ts:Array Value},Qp G γ st ts w->(∀p,p∈ps->p < st.n)->cs.length=ps.length->vs.length=ps.length->
  (∀(i:Nat) (c:V) (v:Value),cs[i]?=some c->vs[i]?=some v->Qj γ w st.b st.u c v)->Qp G γ (EV.WY st (ps.zip cs)) ((ps.zip vs).foldl (λt p=>t.setIfInBounds p.1 p.2) ts) w
 | [],cs,vs,st,ts,h,_,_,_,_=>by simpa[EV.WY] using h
 | p :: ps,c :: cs,v :: vs,st,ts,h,hp,h1,h2,hr=>by
  have key:Qp G γ (st.put (some p) c) ((⟨ts,[]⟩:Act).put (some p) v).tmps w:=Qp.put (a:=⟨ts,[]⟩) h (by grind [H6]) (hr 0 c v rfl rfl)
  exact Qp.WY (ps:=ps) (cs:=cs) (vs:=vs) (st:=st.QG p c) key (λq hq=>hp q (by simp[hq])) (by simpa using h1) (by simpa using h2) λi c' v' hc hv=>hr (i+1) c' v' (by simpa using hc) (by simpa using hv)
 | p :: ps,[],vs,st,ts,_,_,h1,_,_=>by simp at h1
 | p :: ps,c :: cs,[],st,ts,_,_,_,h2,_=>by simp at h2
theorem OS:∀(L:List (Nat×V)) (s:St),(WY s L).b=s.b/\(WY s L).u=s.u
 | [],_=>⟨rfl,rfl⟩
 | p :: L,s=>⟨(OS L (s.QG p.1 p.2)).1,(OS L (s.QG p.1 p.2)).2⟩
def Jo(P:Program)(G:ze)(n:Nat)(t:Nat->V)(ps:List Nat)(assign body:Code)(b:zg)(cs:List V)(R:Exit->(zg)->Prop):Prop:=
 ∃st1,TV P G assign (WY (M5 n t b) (ps.zip cs)) (λe s=>e=.normal/\QU G s st1)/\
  TV P G body st1 (λe s=>∃b' m,R e b'/\QU G s (M5 m (λ_=>.undef) b'))
def Yg:Exit->Option Code
 | .ret=>some .ret
 | .exit id=>some (.exit id)
 | _=>none
def X7(fn:FuncId)(te:Array Value)(ps:Array Tmp)(assign body:Code)(D:Nat)(e:Exit):Loop:=
 { state:=if (Yg e).isNone then .ready else .done,pending:=Yg e,fn,tmps:=te,params:=ps,assign,body,defers:=D }
structure YL where
 n:Nat
 t:Nat->V
 ps:Array Tmp
 assign:Code
 body:Code
structure Env(G:ze)(L:YL)(γ0:Gh)(w0:World)(b0:zg)(l D:Nat)(Ds:List Nat)(sz:Nat)(te:Array Value)(r:Loop)(γ:Gh)(b:zg)(u:zh)(w:World):Prop where
 Vp:Qp G γ0 (M5 L.n L.t b0) te w0
 grow:Qe γ0 w0 γ w
 JQ:Zg γ0 b0 Qw γ b u
 loop:w.heap[l]?=some (.loop r)
 own:γ.own l=none
 lo:w0.heap.size<=l/\l < sz/\w0.heap.size<=sz/\sz<=w.heap.size
 dfr:∀E,E∈Ds->w.heap[E]?=some (.deferred (some []))/\γ.own E=none/\w0.heap.size<=E/\E < sz/\E≠l
def A6(sz:Nat)(γ:Gh)(w:World)(ds:List Deferred):Prop:=
 ∃Es:List Nat,ds=Es.map ZF/\Es.Nodup/\∀E,E∈Es->sz<=E/\w.heap[E]?=some (.deferred (some []))/\γ.own E=none
theorem A6.nil{sz:Nat}{γ:Gh}{w:World}:A6 sz γ w []:=⟨[],rfl,by simp,λE h=>by simp at h⟩
theorem A6.trans{sz:Nat}{γ γ':Gh}{w w':World}{ds ds':List Deferred}(h:A6 sz γ w ds)(g:Qe γ w γ' w')(k:Marks true w γ' w' ds ds')(hz:sz<=w.heap.size):A6 sz γ' w' ds':=by
 obtain⟨Es,rfl,h2,h3⟩:=h
 obtain⟨Fs,_,k1,k2,k3⟩:=k
 have lt:∀E,E∈Es->E < w.heap.size:=(by grind)
 refine⟨Fs++Es,by rw[k1];simp,List.nodup_append.2 ⟨k2,h2,λx hx y hy e=>?_⟩,λE hE=>?_⟩
 ·grind
 ·rcases zX.1 hE with hE|hE
  ·grind
  ·obtain⟨a1,a2,a3⟩:=h3 E hE
   obtain⟨b1,b2,_⟩:=g.free E (lt E hE) a3
   grind
theorem A6.grow{sz:Nat}{γ γ':Gh}{w w':World}{ds:List Deferred}(h:A6 sz γ w ds)(g:Qe γ w γ' w'):A6 sz γ' w' ds:=by
 obtain⟨Es,h1,h2,h3⟩:=h
 refine⟨Es,h1,h2,λE hE=>?_⟩
 obtain⟨a1,a2,a3⟩:=h3 E hE
 obtain⟨b1,b2,_⟩:=g.free E (by grind) a3
 grind
theorem A6.put{sz:Nat}{γ:Gh}{w:World}{ds:List Deferred}{l:Nat}{r:Loop}{o:Obj}(h:A6 sz γ w ds)(hl:w.heap[l]?=some (.loop r)):A6 sz γ (w.putObj l o) ds:=by
 obtain⟨Es,h1,h2,h3⟩:=h
 refine⟨Es,h1,h2,λE hE=>?_⟩
 grind [World.putObj_heap_other]
section
variable {P:Program} {G:ze} {L:YL} {γ0:Gh} {w0:World} {b0:zg} {l D:Nat} {Ds:List Nat} {sz:Nat} {te:Array Value} {r:Loop} {γ:Gh} {b:zg} {u:zh} {w:World}
theorem Env.step(h:Env G L γ0 w0 b0 l D Ds sz te r γ b u w){γ':Gh}{b':zg}{u':zh}{w':World}(g:Qe γ w γ' w')(hp:Zg γ b u γ' b' u'):Env G L γ0 w0 b0 l D Ds sz te r γ' b' u' w':=by
 have l1:=(wq.1 h.loop).1
 refine⟨h.Vp,h.grow.trans g,h.JQ.trans hp,(g.free l l1 h.own).1.trans h.loop,(g.free l l1 h.own).2.1,⟨h.lo.1,h.lo.2.1,h.lo.2.2.1,Nat.le_trans h.lo.2.2.2 g.size⟩,λE hE=>?_⟩
 obtain⟨a1,a2,a3⟩:=h.dfr E hE
 obtain⟨b1,b2,_⟩:=g.free E (by grind) a2
 grind
theorem Env.put(h:Env G L γ0 w0 b0 l D Ds sz te r γ b u w){i:Nat}{o o':Obj}(hi:w.heap[i]?=some o)(hn:Fz o=false)(h0:w0.heap.size<=i)(hil:i≠l)(hd:∀E,E∈Ds->E≠i):Env G L γ0 w0 b0 l D Ds sz te r γ b u (w.putObj i o'):=
 ⟨h.Vp,h.grow.put hi hn h0,h.JQ,(World.putObj_heap_other (Ne.symm hil)).trans h.loop,h.own,⟨h.lo.1,h.lo.2.1,h.lo.2.2.1,by rw[World.putObj_size];exact h.lo.2.2.2⟩,λE hE=>by
  obtain⟨a1,a2⟩:=h.dfr E hE
  grind [World.putObj_heap_other,trans]⟩
theorem Env.record(h:Env G L γ0 w0 b0 l D Ds sz te r γ b u w)(r':Loop):Env G L γ0 w0 b0 l D Ds sz te r' γ b u (w.putObj l (.loop r')):=
 ⟨h.Vp,h.grow.put h.loop rfl h.lo.1,h.JQ,World.putObj_heap_same (wq.1 h.loop).1,h.own,⟨h.lo.1,h.lo.2.1,h.lo.2.2.1,by rw[World.putObj_size];exact h.lo.2.2.2⟩,λE hE=>by
  obtain⟨a1,a2,a3,a4,a5⟩:=h.dfr E hE
  grind [World.putObj_heap_other,trans]⟩
theorem FQ{fn:FuncId}{ni:Nat}{ti:Nat->V}{tm:Array Value}{cs:List V}{as:Array Value}{R:Exit->(zg)->Prop}{X:Ending->World->Prop}(hs:Qp G γ (M5 ni ti b) tm w)(hti:∀i,okV D7 (ti i)=true)(ht:∀i,okV D7 (L.t i)=true)(hpn:∀p,p∈L.ps.toList->p < L.n)
  (he:Env G L γ0 w0 b0 l D Ds sz te (X7 fn te L.ps L.assign L.body D .normal) γ b Qw w) (hps:cs.length=L.ps.size) (hr:Jo P G L.n L.t L.ps.toList L.assign L.body b cs R) (hR:∀e b',R e b'->e=.normal\/e=.ret\/∃id,e=.exit id)
  (ha:as.size=L.ps.size) (hcs:∀(i:Nat) (c:V) (v:Value),cs[i]?=some c->as[i]?=some v->Qj γ w b Qw c v)
  {ds:List Deferred} (hk:A6 sz γ w ds)
  (hX:∀e b' γ' w',R e b'->Env G L γ0 w0 b0 l D Ds sz te (X7 fn te L.ps L.assign L.body D e) γ' b' Qw w'->Qp G γ' (M5 ni ti b') tm w'->A6 sz γ' w' ds->(∀B,B < w.heap.size->γ.own B=none->B≠l->w'.heap[B]?=w.heap[B]?/\γ'.own B=none/\γ'.Qr B=γ.Qr B)->X (.returned (.bool (Yg e).isNone)) w') :
  RoundIn (RF none) 0 P l fn ((L.ps.zip as).foldl (λt (p,v)=>t.setIfInBounds p v) te) L.assign L.body w X:=by
 obtain⟨st1,r1,r2⟩:=hr
 have e1:(L.ps.zip as).foldl (λt (p,v)=>t.setIfInBounds p v) te=(L.ps.toList.zip as.toList).foldl (λt p=>t.setIfInBounds p.1 p.2) te:=by
  rw[<-Array.foldl_toList,Array.toList_zip]
 refine roundIn_of_wpIn trivial ?_
 rw[e1]
 have sT:Qp G γ (M5 L.n L.t b) te w:=he.Vp.resume ht he.grow he.JQ hs
 have h1:Qp G γ (WY (M5 L.n L.t b) (L.ps.toList.zip cs)) ((L.ps.toList.zip as.toList).foldl (λt p=>t.setIfInBounds p.1 p.2) te) w:=
  Qp.WY sT hpn (by grind) (by simpa using ha) λi c v hc hv=>hcs i c v hc (by simpa using hv)
 have b1:=OS (L.ps.toList.zip cs) (M5 L.n L.t b)
 refine wpIn_mono (r1 ⟨some l,[],true⟩ γ ⟨_,[]⟩ w h1 ⟨rfl,rfl,λl' hl'=>by cases hl';exact⟨⟨_,he.loop⟩,he.own⟩⟩) λe a1 w1 hl=>?_
 obtain⟨s1,γ1,k1,⟨k2,k2p⟩,k3,rfl,k4⟩:=hl
 obtain⟨γ2,m1,m2,m3⟩:=k4 γ1 a1.tmps w1 k1
 have g2:=k2.trans m2
 have p2:=k2p.trans m3
 rw[b1.1,b1.2] at p2
 have hl1:w1.heap[l]?=some (.loop (X7 fn te L.ps L.assign L.body D .normal)):=(k2.free l (wq.1 he.loop).1 he.own).1.trans he.loop
 refine⟨_,run_beginRound hl1 rfl,?_⟩
 have cs1:∀o',Y2 w1 (w1.putObj l o'):=λo'=>.put hl1 rfl
 have own2:γ2.own l=none:=(g2.free l (wq.1 he.loop).1 he.own).2.1
 refine wpIn_mono (r2 ⟨some l,a1.defers,true⟩ γ2 a1 _ ((cs1 _).FV m1) ⟨rfl,rfl,(by grind [World.putObj_heap_same,Array.getElem?_eq_some_iff])⟩) λe a2 w2 hl=>?_
 obtain⟨s2,γ3,n1,⟨n2,n2p⟩,n3,b',m,q1,q2⟩:=hl
 obtain⟨γ4,o1,o2,o3⟩:=q2 γ3 a2.tmps w2 n1
 have g4:=n2.trans o2
 have p4:=n2p.trans o3
 have eB:=he.record { X7 fn te L.ps L.assign L.body D .normal with state:=.busy }
 have csw:∀o',Y2 w (w.putObj l o'):=λo'=>.put he.loop rfl
 have gB:Qe γ (w.putObj l (.loop { X7 fn te L.ps L.assign L.body D .normal with state:=.busy })) γ2 (w1.putObj l (.loop { X7 fn te L.ps L.assign L.body D .normal with state:=.busy })):=by
  refine⟨g2.os,g2.tape,g2.output,by simpa using g2.size,λB o v hB hc=>?_,λB hB=>g2.Qr B (by simpa using hB),λB hB hn=>?_,λB cs e fz hc=>?_⟩
  ·have hne:B≠l:=λe=>by
    subst e
    obtain⟨c1,c2,c3,hb⟩:=Us hc
    rw[World.putObj_heap_same (wq.1 he.loop).1] at hb;cases hb
   refine(cs1 _).cell (g2.NR B o v hB ?_)
   grind [World.putObj_heap_other,cellAt,World.cell?]
  ·rw[World.putObj_size] at hB
   obtain⟨a1,a2,a3⟩:=g2.free B hB hn
   grind [World.putObj_heap_same,Array.getElem?_eq_some_iff,World.putObj_heap_other]
  ·have hne:B≠l:=λe'=>by
    subst e'
    rw[World.putObj_heap_same (wq.1 he.loop).1] at hc;cases hc
   rw[World.putObj_heap_other hne] at hc
   obtain⟨cs',fz',c1,c2⟩:=g2.room B cs e fz hc
   grind [World.putObj_heap_other]
 have gT:=gB.trans g4
 have pT:Zg γ b Qw γ4 b' Qw:=p2.trans p4
 have sI:Qp G γ4 (M5 ni ti b') tm w2:=((csw _).FV hs).resume hti gT pT o1
 have f1:=eB.step gT pT
 have hl2:=f1.loop
 have mk2:A6 sz γ4 w2 ds:=(hk.put he.loop).grow gT
 have fin:∀(e:Exit),R e b'->(Instr.endRound l (Yg e)).run P w2=.ok (.bool (Yg e).isNone) (w2.putObj l (.loop (X7 fn te L.ps L.assign L.body D e)))/\X (.returned (.bool (Yg e).isNone)) (w2.putObj l (.loop (X7 fn te L.ps L.assign L.body D e))):=λe hRe=>
  ⟨run_endRound (P:=P) (Yg e) hl2,hX e b' γ4 _ hRe (f1.record _) ((Y2.put hl2 rfl).FV sI) (mk2.put hl2) λB hB hn hne=>by
   obtain⟨q1,q2,q3⟩:=gT.free B (by simpa using hB) hn
   grind [World.putObj_heap_other,trans]⟩
 rcases hR e b' q1 with rfl|rfl|⟨id,rfl⟩
 ·exact⟨_,_,fin .normal q1⟩
 ·exact⟨_,_,fin .ret q1⟩
 ·exact⟨_,_,fin (.exit id) q1⟩
theorem TU{fn:FuncId}{o:Oper}{x:Operand}{xs:Array Operand}{ts:Array TypeId}{ni:Nat}{ti:Nat->V}{a:Act}{cs:List V}{R:Exit->(zg)->Prop}{nx:Act->World->Prop}{Q:Exit->Act->World->Prop}
  (ho:o.op=.call { callee:=.value x,args:=xs,argTypes:=ts }) (hx:(M5 ni ti b).ev G x=some (.QP l)) (hcs:iO ((M5 ni ti b).ev G) xs.toList=some cs)
  (hs:Qp G γ (M5 ni ti b) a.tmps w) (hti:∀i,okV D7 (ti i)=true) (ht:∀i,okV D7 (L.t i)=true) (hpn:∀p,p∈L.ps.toList->p < L.n)
  (he:Env G L γ0 w0 b0 l D Ds sz te (X7 fn te L.ps L.assign L.body D .normal) γ b Qw w) (hps:cs.length=L.ps.size) (hr:Jo P G L.n L.t L.ps.toList L.assign L.body b cs R) (hR:∀e b',R e b'->e=.normal\/e=.ret\/∃id,e=.exit id)
  (hk:A6 sz γ w a.defers) (hX:∀e b' γ' w',R e b'->Env G L γ0 w0 b0 l D Ds sz te (X7 fn te L.ps L.assign L.body D e) γ' b' Qw w'->Qp G γ' (M5 ni ti b') a.tmps w'->A6 sz γ' w' a.defers->(∀B,B < w.heap.size->γ.own B=none->B≠l->w'.heap[B]?=w.heap[B]?/\γ'.own B=none/\γ'.Qr B=γ.Qr B)->nx (a.put o.dst (.bool (Yg e).isNone)) w') :
  o.wpIn (RF none) 0 P a w nx Q:=by
 refine⟨λ_ _=>trivial,?_⟩
 have hv:=(hs.ev hx).mL
 have e : (execOp a.eval o) = (do let d <- Deferred.ofValue (a.eval x) (xs.map a.eval); invoke d.target d.args) := by
  unfold execOp;rw[ho];rfl
 have hm:=Wp hs hcs
 have k:(xs.toList.map a.eval).toArray=xs.map a.eval:=(by grind)
 rw[k] at hm
 have hsz:(xs.map a.eval).size=L.ps.size:=hm.1.trans hps
 have hrun:(execOp a.eval o).run P w=.ok (.round l fn ((L.ps.zip (xs.map a.eval)).foldl (λt (p,v)=>t.setIfInBounds p v) te) L.assign L.body) w:=by
  rw[e,hv]
  have : (do let d <- Deferred.ofValue (.func (.yield l) #[] #[]) (xs.map a.eval); invoke d.target d.args : Sem Next) = Instr.yield l (xs.map a.eval) := by
   simp[Deferred.ofValue,invoke]
  rw[this]
  exact run_yield he.loop hsz
 show o.uponIn _ _ _ _ _ _ (((o.semAt none a.eval)).run P w)
 rw[Oper.semAt_none,hrun,Oper.uponIn_round]
 refine⟨(by grind [RF,Fence.wide]),?_⟩
 exact FQ hs hti ht hpn he hps hr hR hsz (λi c v hc hv=>hm.2 i c v hc hv) hk (by grind)
end
def Ov(P:Program)(G:ze)(c:Code)(m:Nat)(args:Nat->List V)(bi:zg)(L:YL)(R Rp:Exit->(zg)->Prop):Prop:=
 ∀(fn:FuncId) (γ0:Gh) (w0:World) (b0:zg) (l D:Nat) (Ds:List Nat) (sz:Nat) (te:Array Value) (γ:Gh) (a:Act) (w:World),
  Env G L γ0 w0 b0 l D Ds sz te (X7 fn te L.ps L.assign L.body D .normal) γ bi Qw w->Qp G γ (U3 m (args l) bi) a.tmps w->a.defers=[]->
  CW none P c (λe a' w'=>∃e2 b' γ' ni ti tm,((e=.normal\/e=.ret)/\R e2 b'\/(∃ch,e=.panic ch)/\Rp e b')/\Env G L γ0 w0 b0 l D Ds sz te (X7 fn te L.ps L.assign L.body D e2) γ' b' Qw w'/\Qp G γ' (M5 ni ti b') tm w'/\A6 sz γ' w' a'.defers) a w
abbrev Uq(P:Program)(G:ze)(c:Code)(m:Nat)(args:Nat->List V)(bi:zg)(L:YL)(R:Exit->(zg)->Prop):Prop:=Ov P G c m args bi L R λ_ _=>False
theorem heap_alloc(w:World)(o:Obj)(B:Nat)(hB:B < w.heap.size):(w.alloc o).heap[B]?=w.heap[B]?:=by
 show (w.heap.push o)[B]?=_
 grind
theorem Qe.alloc(γ:Gh)(w:World)(o:Obj):Qe γ w γ (w.alloc o)/\Y2 w (w.alloc o):=by
 have cs:Y2 w (w.alloc o):=⟨by simp,(by grind [Array.getElem?_eq_some_iff,heap_alloc,trans]),(by grind [Array.getElem?_eq_some_iff,heap_alloc,trans])⟩
 exact⟨(Qe.refl γ w).same cs (by grind [heap_alloc]) rfl rfl rfl,cs⟩
section
variable {P:Program} {G:ze}
theorem CS{L:YL}(fn:FuncId){fx:Fx}{γ:Gh}{st:St}{a:Act}{w:World}(hs:Qp G γ st a.tmps w)(hx:Uz fx γ a.defers w) :
  ∃(l D:Nat) (Ds:List Nat) (w1:World),(Instr.enterLoop fn a.tmps L.ps L.assign L.body fx.ro).run P w=.ok (l,Ds.map ZF) w1/\Ds.Nodup/\w1.heap[l]?=some (.loop (X7 fn a.tmps L.ps L.assign L.body D .normal))/\
   (Qe γ w γ w1/\Y2 w w1)/\γ.own l=none/\(w.heap.size<=l/\l < w1.heap.size)/\∀E,E∈Ds->w1.heap[E]?=some (.deferred (some []))/\γ.own E=none/\w.heap.size<=E/\E < w1.heap.size/\E≠l:=by
 have hnone:∀B,w.heap.size<=B->γ.own B=none:=λB hB=>by
  cases ho:γ.own B with
  | none=>rfl
  | some x=>have:=hs.o B x ho;omega
 cases hro:fx.ro with
 | none=>
  have hL:((w.alloc (.deferred (some []))).alloc (.loop (X7 fn a.tmps L.ps L.assign L.body w.heap.size .normal))).heap[w.heap.size+1]?=some (.loop (X7 fn a.tmps L.ps L.assign L.body w.heap.size .normal)):=by
   grind [World.alloc_heap_new,World.size_alloc,X7]
  have hD:((w.alloc (.deferred (some []))).alloc (.loop (X7 fn a.tmps L.ps L.assign L.body w.heap.size .normal))).heap[w.heap.size]?=some (.deferred (some [])):=
   (heap_alloc _ _ _ (by simp)).trans (World.alloc_heap_new w _)
  obtain⟨x1,x2⟩:=Qe.alloc γ w (.deferred (some []))
  obtain⟨y1,y2⟩:=Qe.alloc γ (w.alloc (.deferred (some []))) (.loop (X7 fn a.tmps L.ps L.assign L.body w.heap.size .normal))
  refine⟨w.heap.size+1,w.heap.size,[w.heap.size],_,run_enterLoop_outer _ _ _ _ _,by simp,hL,⟨x1.trans y1,x2.trans y2⟩,hnone _ (by omega),⟨by omega,(wq.1 hL).1⟩,λE hE=>?_⟩
  simp only[wm] at hE
  subst hE
  exact⟨hD,hnone _ (zH _),zH _,(wq.1 hD).1,by omega⟩
 | some l0=>
  obtain⟨⟨r0,h0⟩,_⟩:=hx.2.2 l0 hro
  have hL:=World.alloc_heap_new w (.loop (X7 fn a.tmps L.ps L.assign L.body r0.defers .normal))
  exact⟨w.heap.size,r0.defers,[],_,run_enterLoop_inner h0 _ _ _ _ _,by simp,hL,Qe.alloc γ w _,hnone _ (zH _),⟨zH _,(wq.1 hL).1⟩,λE hE=>by simp at hE⟩
end
structure YS where
 x:Exit
 st:St
def kO(G:ze)(L:YL)(l:Nat)(fn:FuncId)(γ0:Gh)(w0:World)(b0:zg)(D:Nat)(Ds:List Nat)(sz:Nat)(te:Array Value)(Q:Exit->YS->Prop)(e:Exit)(a':Act)(w':World):Prop:=
 ∃s' γ',A6 sz γ' w' a'.defers/\Env G L γ0 w0 b0 l D Ds sz te (X7 fn te L.ps L.assign L.body D s'.x) γ' s'.st.b s'.st.u w'/\Qp G γ' s'.st a'.tmps w'/\Q e s'
def YT(P:Program)(G:ze)(L:YL)(l:Nat)(c:Code)(s:YS)(Q:Exit->YS->Prop):Prop:=
 ∀(fn:FuncId) (γ0:Gh) (w0:World) (b0:zg) (D:Nat) (Ds:List Nat) (sz:Nat) (te:Array Value) (γ:Gh) (a:Act) (w:World),
  Env G L γ0 w0 b0 l D Ds sz te (X7 fn te L.ps L.assign L.body D s.x) γ s.st.b s.st.u w->Qp G γ s.st a.tmps w->A6 sz γ w a.defers->
  CW none P c (kO G L l fn γ0 w0 b0 D Ds sz te Q) a w
def oN(next:YS->Prop)(Q:Exit->YS->Prop):Exit->YS->Prop
 | .normal,s=>next s
 | e,s=>Q e s
def GB(id:Nat)(Q:Exit->YS->Prop):Exit->YS->Prop
 | .exit id',s=>if id'=id then Q .normal s else Q (.exit id') s
 | e,s=>Q e s
section
variable {P:Program} {G:ze} {L:YL} {l:Nat} {s:YS} {Q:Exit->YS->Prop}
theorem YT.mono{c:Code}{Q':Exit->YS->Prop}(h:YT P G L l c s Q)(hq:∀e s,Q e s->Q' e s):YT P G L l c s Q':=λfn γ0 w0 b0 D Ds sz te γ a w he hs hd=>
 wpIn_mono (h fn γ0 w0 b0 D Ds sz te γ a w he hs hd) λ_ _ _ ⟨s',γ',h1,h2,h3,h4⟩=>⟨s',γ',h1,h2,h3,hq _ _ h4⟩
theorem YT.tv{c:Code}{Q1:Exit->St->Prop}(h:TV P G c s.st Q1)(hq:∀e st,Q1 e st->Q e ⟨s.x,st⟩):YT P G L l c s Q:=λfn γ0 w0 b0 D Ds sz te γ a w he hs hd=>
 wpIn_mono (h ⟨none,a.defers,true⟩ γ a w hs (Uz.free γ w)) λe a' w' hl=>by
  obtain⟨st',γ',h1,⟨h2,h2p⟩,h3,h4⟩:=hl
  exact⟨⟨s.x,st'⟩,γ',hd.trans h2 h3 he.lo.2.2.2,he.step h2 h2p,h1,hq e st' h4⟩
theorem YT.seq{x y:Code}(h:YT P G L l x s (oN (λs=>YT P G L l y s Q) Q)):YT P G L l (.seq x y) s Q:=λfn γ0 w0 b0 D Ds sz te γ a w he hs hd=>by
 refine wpIn_seq (wpIn_mono (h fn γ0 w0 b0 D Ds sz te γ a w he hs hd) λe a' w' hl=>?_)
 obtain⟨s',γ',h1,h2,h3,h4⟩:=hl
 cases e with
 | normal=>exact h4 fn γ0 w0 b0 D Ds sz te γ' a' w' h2 h3 h1
 | _=>exact⟨s',γ',h1,h2,h3,h4⟩
theorem YT.cond{o:Operand}{x y:Code}{b:Bool}(hc:s.st.ev G o=some (.bool b))(h:YT P G L l (if b then x else y) s Q):YT P G L l (.cond o x y) s Q:=λfn γ0 w0 b0 D Ds sz te γ a w he hs hd=>
 wpIn_cond ((hs.ev hc).QF) (h fn γ0 w0 b0 D Ds sz te γ a w he hs hd)
theorem YT.block{id:Nat}{c:Code}(h:YT P G L l c s (GB id Q)):YT P G L l (.block id c) s Q:=λfn γ0 w0 b0 D Ds sz te γ a w he hs hd=>by
 refine wpIn_block (wpIn_mono (h fn γ0 w0 b0 D Ds sz te γ a w he hs hd) λe a' w' hl=>?_)
 obtain⟨s',γ',h1,h2,h3,h4⟩:=hl
 cases e with
 | exit id'=>
  simp only[GB] at h4
  simp only[Exit.inBlock]
  split
  ·rename_i he;rw[if_pos he] at h4;exact⟨s',γ',h1,h2,h3,h4⟩
  ·rename_i he;rw[if_neg he] at h4;exact⟨s',γ',h1,h2,h3,h4⟩
 | _=>exact⟨s',γ',h1,h2,h3,h4⟩
theorem YT.skip(h:Q .normal s):YT P G L l .skip s Q:=λ_ _ _ _ _ _ _ _ γ _ _ he hs hd=>wpIn_skip ⟨s,γ,hd,he,hs,h⟩
theorem YT.exit{id:Nat}(h:Q (.exit id) s):YT P G L l (.exit id) s Q:=λ_ _ _ _ _ _ _ _ γ _ _ he hs hd=>wpIn_exit ⟨s,γ,hd,he,hs,h⟩
theorem YT.loop{c:Code}(I:Nat->YS->Prop)(round:∀n s,I n s->YT P G L l c s (oN (λs'=>∃m,m < n/\I m s') Q)){n:Nat}(h:I n s):YT P G L l (.loop c) s Q:=λfn γ0 w0 b0 D Ds sz te γ a w he hs hd=>by
 refine Nx (λn a' w'=>kO G L l fn γ0 w0 b0 D Ds sz te (λ_ s=>I n s) .normal a' w') (λn a' w' hI=>?_) n a w ⟨s,γ,hd,he,hs,h⟩
 obtain⟨s',γ',h1,h2,h3,h4⟩:=hI
 refine wpIn_mono (round n s' h4 fn γ0 w0 b0 D Ds sz te γ' a' w' h2 h3 h1) λe a2 w2 hl=>?_
 obtain⟨s2,γ2,k1,k2,k3,k4⟩:=hl
 cases e with
 | normal=>obtain⟨m,hm,hI⟩:=k4;exact⟨m,hm,s2,γ2,k1,k2,k3,hI⟩
 | _=>exact⟨s2,γ2,k1,k2,k3,k4⟩
theorem YT.DC{c:Code}{x:Exit}{st st':St}(g:QU G st st')(h:YT P G L l c ⟨x,st'⟩ Q):YT P G L l c ⟨x,st⟩ Q:=λfn γ0 w0 b0 D Ds sz te γ a w he hs hd=>by
 obtain⟨γ',h1,h2,h3⟩:=g γ a.tmps w hs
 exact h fn γ0 w0 b0 D Ds sz te γ' a w (he.step h2 h3) h1 (hd.grow h2)
def J3(P:Program)(G:ze)(L:YL)(l:Nat)(ops:Array Oper)(is:List Nat)(s:YS)(Q:Exit->YS->Prop):Prop:=
 ∀(fn:FuncId) (γ0:Gh) (w0:World) (b0:zg) (D:Nat) (Ds:List Nat) (sz:Nat) (te:Array Value) (γ:Gh) (a:Act) (w:World),
  Env G L γ0 w0 b0 l D Ds sz te (X7 fn te L.ps L.assign L.body D s.x) γ s.st.b s.st.u w->Qp G γ s.st a.tmps w->A6 sz γ w a.defers->
  wpOpsIn (RF none) 0 P ops (kO G L l fn γ0 w0 b0 D Ds sz te Q) is a w
theorem YT.region{id:Nat}{ops:Array Oper}(h:J3 P G L l ops (List.range ops.size) s Q):YT P G L l (.region id ops false) s Q:=λfn γ0 w0 b0 D Ds sz te γ a w he hs hd=>wpIn_region (h fn γ0 w0 b0 D Ds sz te γ a w he hs hd)
theorem J3.nil{ops:Array Oper}(h:Q .normal s):J3 P G L l ops [] s Q:=λ_ _ _ _ _ _ _ _ γ _ _ he hs hd=>⟨s,γ,hd,he,hs,h⟩
theorem J3.DC{ops:Array Oper}{is:List Nat}{x:Exit}{st st':St}(g:QU G st st')(h:J3 P G L l ops is ⟨x,st'⟩ Q):J3 P G L l ops is ⟨x,st⟩ Q:=λfn γ0 w0 b0 D Ds sz te γ a w he hs hd=>by
 obtain⟨γ',h1,h2,h3⟩:=g γ a.tmps w hs
 exact h fn γ0 w0 b0 D Ds sz te γ' a w (he.step h2 h3) h1 (hd.grow h2)
theorem UT{F:Fence}{n:Nat}{ops:Array Oper}{Q:Exit->Act->World->Prop}(js:List Nat):∀(is:List Nat) (a:Act) (w:World),wpOpsIn F n P ops (λe a w=>e=.normal/\wpOpsIn F n P ops Q js a w) is a w->wpOpsIn F n P ops Q (is++js) a w
 | [],a,w,h=>h.2
 | i :: is,a,w,h=>by
  have ih:=UT (F:=F) (n:=n) (ops:=ops) (Q:=Q) js is
  simp only[wpOpsIn,List.cons_append] at h ⊢
  split
  ·grind
  ·rename_i o hi
   rw[hi] at h
   simp only at h ⊢
   split
   ·rename_i hw
    rw[if_pos hw] at h
    refine⟨h.1,?_⟩
    have h:=h.2
    unfold Oper.uponIn at h ⊢
    split at h
    ·exact ih _ _ h
    ·exact ih _ _ h
    ·exact ih _ _ h
    ·refine⟨h.1,CallsIn.mono h.2 λe w' hr=>?_⟩
     cases e with
     | returned v=>grind
     | panicked ch=>grind
     | outgrown=>obtain⟨a0,w0,h2⟩:=hr;grind
    ·grind [RowsIn.mono]
    ·refine⟨h.1,RoundIn.mono h.2 λe w' hr=>?_⟩
     cases e with
     | returned v=>grind
     | panicked ch=>grind
     | outgrown=>obtain⟨a0,w0,h2⟩:=hr;grind
    ·grind
    grind
   grind
theorem J3.tv{ops:Array Oper}{is js:List Nat}{Q1:Exit->St->Prop}(h:U6 P G ops is s.st Q1)(hq:∀e st,Q1 e st->e=.normal/\J3 P G L l ops js ⟨s.x,st⟩ Q):J3 P G L l ops (is++js) s Q:=λfn γ0 w0 b0 D Ds sz te γ a w he hs hd=>by
 refine UT js is a w (H0 (λe a' w' hl=>?_) is a w (h ⟨none,a.defers,true⟩ γ a w hs (Uz.free γ w)))
 obtain⟨st',γ',h1,⟨h2,h2p⟩,h3,h4⟩:=hl
 obtain⟨rfl,h5⟩:=hq e st' h4
 exact⟨rfl,h5 fn γ0 w0 b0 D Ds sz te γ' a' w' (he.step h2 h2p) h1 (hd.trans h2 h3 he.lo.2.2.2)⟩
theorem J3.step{ops:Array Oper}{i:Nat}{is:List Nat}{st':St}(h:stepG P G ops i s.st=some st')(hr:J3 P G L l ops is ⟨s.x,st'⟩ Q):J3 P G L l ops (i :: is) s Q:=
 J3.tv (is:=[i]) (js:=is) (Q1:=λe st=>e=.normal/\st=st') (U6.cons (C0 h) (U6.nil ⟨rfl,rfl⟩)) (by grind)
theorem Ov.of{c:Code}{m:Nat}{args:Nat->List V}{bi:zg}{R Rp:Exit->(zg)->Prop}
  (h:∀l,YT P G L l c ⟨.normal,U3 m (args l) bi⟩ (λe s=>∃ni ti b',QU G s.st (M5 ni ti b')/\((e=.normal\/e=.ret)/\R s.x b'\/(∃ch,e=.panic ch)/\Rp e b'))):Ov P G c m args bi L R Rp:=λfn γ0 w0 b0 l D Ds sz te γ a w he hs hd=>
 wpIn_mono (h l fn γ0 w0 b0 D Ds sz te γ a w he hs (by rw[hd];exact A6.nil)) λe a' w' hl=>by
  obtain⟨s',γ',h1,h2,h3,ni,ti,b',h5,h6⟩:=hl
  obtain⟨γ2,k1,k2,k3⟩:=h5 γ' a'.tmps w' h3
  exact⟨s'.x,b',γ2,ni,ti,a'.tmps,h6,h2.step k2 k3,k1,h1.grow k2⟩
theorem Uq.of{c:Code}{m:Nat}{args:Nat->List V}{bi:zg}{R:Exit->(zg)->Prop}
  (h:∀l,YT P G L l c ⟨.normal,U3 m (args l) bi⟩ (λe s=>(e=.normal\/e=.ret)/\∃ni ti b',QU G s.st (M5 ni ti b')/\R s.x b')):Uq P G c m args bi L R:=
 Ov.of λl=>(h l).mono (by grind)
end
def Y1(P:Program)(G:ze)(kp:List Nat)(n:Nat)(c:Code)(x:Ext){ρ:Type}(g:T P G ρ)(E:ρ->Ext):Prop:=
 (x.ok,sx P G kp 100000 ρ (.LU E) g (.inl c) [] (x.D n))=(true,g.expect (.LU E))
theorem Y1.tv{P:Program}{G:ze}{kp:List Nat}{n:Nat}{c:Code}{x:Ext}{ρ:Type}{g:T P G ρ}{E:ρ->Ext}(h:Y1 P G kp n c x g E)(hm:P.follows .mixedOrders=true){r:ρ}(hr:g.run=some r)(hE:(E r).ok=true) :
  TV P G c (x.D n).st (λe s=>e=(E r).ex/\QU G s ((E r).D n).st):=by
 simp only[Y1,zI] at h
 have key:TV P G c (x.D n).st (N3 P (.LU E) r n):=FG hm 100000 _ _ _ _ _ _ _ (YR h.1) h.2 hr
 refine key.mono λe s hg=>?_
 obtain⟨g1,g2,g3,g4⟩:=hg
 grind [C8]
theorem U6.lW{P:Program}{G:ze}{ops:Array Oper}{Q:Exit->St->Prop}{p:Y4}{st:St}{m:Nat}(h:∀i,i < m->X1 P G ops i (U9 p st i) (p.rs i) (p.ws i))(hq:Q .normal (U9 p st m)) :
  ∀n k,k+n=m->U6 P G ops (List.range' k n) (U9 p st k) Q
 | 0,k,hk=>by
  grind [U6.nil]
 | n+1,k,hk=>by
  rw[List.range'_succ]
  exact U6.cons (h k (by omega) _ rfl (λl _=>I6.refl _ l)) (U6.lW h hq n (k+1) (by omega))
theorem U6.rel{P:Program}{G:ze}{ops:Array Oper}{l:List Nat}{st:St}{Q Q':Exit->St->Prop}(h:U6 P G ops l st Q')(hq:∀e s,Q' e s->Rel P G Q e s):U6 P G ops l st Q:=λfx γ a w hs hd=>
 H0 (λe a' w' hl=>by
  obtain⟨st',γ',h1,h2,h3,h4⟩:=hl
  exact(hq e st' h4 ⟨fx.ro,a'.defers,fx.mx⟩ γ' a' w' h1 rfl).Oh h2 h3) l a w (h fx γ a w hs hd)
def W4(P:Program)(G:ze)(kp:List Nat)(n id:Nat)(ops:Array Oper)(m:Nat)(x:Ext){ρ:Type}(g:T P G ρ)(E:ρ->Ext):Prop:=
 (x.ok,rg P G id ops (List.range' 0 m) g (x.D n).st [] (x.D n).sy (λg s p sy=>XM kp (x.D n) s p sy λd'=>sx P G kp 100 ρ (.LU E) g (.inr .normal) [] d') λ_ _ _ _ _=>.stuck 79)=(true,g.expect (.LU E))
theorem W4.tv{P:Program}{G:ze}{kp:List Nat}{n id:Nat}{ops:Array Oper}{m:Nat}{x:Ext}{ρ:Type}{g:T P G ρ}{E:ρ->Ext}(h:W4 P G kp n id ops m x g E)(hm:P.follows .mixedOrders=true){r:ρ}(hr:g.run=some r)(hE:(E r).ok=true) :
  U6 P G ops (List.range' 0 m) (x.D n).st (λe s=>e=(E r).ex/\QU G s ((E r).D n).st):=by
 simp only[W4,zI] at h
 have hd:=YR (n:=n) h.1
 rcases XU (st0:=(x.D n).st) m g (x.D n).st [] (x.D n).sy h.2 hr ⟨rfl,λj hj=>by simp at hj⟩ hd.sy with⟨g',s,p,sy',x1,x2,x3,x4,x5⟩|⟨_,_,_,_,_,_,_,x1,_⟩
 rotate_left
 ·exact absurd x1 (Z7 _ _ _)
 simp only[List.length_nil,zQ] at x5
 have hs:s=U9 p (x.D n).st m:=by rw[<-x5];exact x3.1
 obtain⟨d',y1,y2,y3,y4⟩:=Hr x1 (λj=>Z7 _ g' j) hd hs x4
 have hq:Rel P G (N3 P (.LU E) r d'.n) .normal d'.st:=FG hm 100 _ _ _ _ _ _ _ y2 y1 x2
 rw[y4] at hq
 have key:=U6.lW (Q:=λe s'=>e=.normal/\s'=s) (m:=m) (λi hi=>x3.2 i (by omega)) ⟨rfl,hs.symm⟩ m 0 (by omega)
 refine U6.rel key λe s' he=>?_
 obtain⟨rfl,rfl⟩:=he
 refine(hq.forget y3).mono λs2 hg=>?_
 obtain⟨g1,g2,g3,g4⟩:=hg
 have f:=C8 (G:=G) (s:=s2) hE g3 g4
 rw[show s2.n=n from g2] at f
 grind
def Ze(ts:List (Nat×V))(i:Nat):V:=match ts.find? (λp=>p.1==i) with|some p=>p.2|none=>.undef
theorem H5{x:Ext}(h:(x.bs.all λp=>decide (1000000<=p.1))=true)(n:Nat):(x.D n).st=M5 n (Ze x.ts) (Qm x.bs):=by
 have hu:(λi=>x.us.contains i || Qw i)=Qw:=funext λi=>by
  cases hu:Qw i with
  | true=>simp
  | false=>
   simp only[Bool.or_false]
   refine Bool.eq_false_iff.2 λhc=>?_
   simp only[Ext.us,zZ,zA] at hc
   obtain⟨p,hp,rfl⟩:=zG.1 hc
   grind [List.all_eq_true,Qw]
 show (⟨n,Ze x.ts,Qm x.bs,λi=>x.us.contains i || Qw i⟩:St)=⟨n,Ze x.ts,Qm x.bs,Qw⟩
 rw[hu]
theorem O3{u:zh}{ts:List (Nat×V)}(h:(ts.all λp=>okV u p.2)=true)(i:Nat):okV u (Ze ts i)=true:=by
 unfold Ze
 cases hf:ts.find? (λp=>p.1==i) with
 | none=>rfl
 | some p=>grind
theorem Jc(n:Nat)(ts:List (Nat×V))(b:zg)(p:Nat)(c:V):WY (M5 n (Ze ts) b) [(p,c)]=M5 n (Ze ((p,c) :: ts)) b:=by
 unfold WY M5 Ze
 simp only[List.foldl,St.QG,St.mk.injEq,true_and,and_true]
 grind
theorem R3{args:List V}{x:Ext}(hx:x.ts=H2 args)(hb:(x.bs.all λp=>decide (1000000<=p.1))=true)(n:Nat):(x.D n).st=U3 n args (Qm x.bs):=by
 rw[H5 hb,hx]
 unfold M5 U3
 simp only[St.mk.injEq,true_and,and_true]
 exact funext λi=>Ut args 0 i
theorem Nt{P:Program}{G:ze}{f:FuncId}{fn:Func}{c:Code}{n:Nat}{args:List V}{ins:zg}{res:V}{outs:zg}
  (hf:P.funcs[f]?=some fn) (hb:fn.body=some c) (hn:n=max fn.ntmps args.length) (hc:D4 8 res res=res) (h:TV P G c (U3 n args ins) (NN P fn.results.toList res outs)):QR P G f args ins res outs:=
 KH hf hb hn λγ a w hs hd=>wpIn_mono (h ⟨none,[],true⟩ γ a w hs ⟨hd,rfl,λ_ h=>by simp at h⟩) (by grind)
theorem YT.piece{P:Program}{G:ze}{L:YL}{l:Nat}{kp:List Nat}{n:Nat}{c:Code}{x:Ext}{ρ:Type}{g:T P G ρ}{E:ρ->Ext}{y:Exit}{Q:Exit->YS->Prop}
  (h:Y1 P G kp n c x g E) (hm:P.follows .mixedOrders=true) {r:ρ} (hr:g.run=some r) (hE:(E r).ok=true) (hq:∀s,QU G s ((E r).D n).st->Q (E r).ex ⟨y,s⟩):YT P G L l c ⟨y,(x.D n).st⟩ Q:=
 YT.tv (h.tv hm hr hE) (by grind)
def sh(b:Nat):Nat:=1000000+b
def un(b:Nat):Nat:=(b / 1000000 - 1) * 1000000+b % 1000000
theorem Jp(b:Nat):un (sh b)=b:=by unfold un sh;omega
theorem lQ{b:Nat}(h:1000000<=b):sh (un b)=b:=by unfold un sh;omega
theorem WI(b:Nat):1000000<=sh b:=by unfold sh;omega
attribute [irreducible] sh un
theorem Sn{b:Nat}(h:1000000<=b):Qw b=true:=by unfold Qw;grind
theorem OX(b:Nat):Qw (sh b)=true:=Sn (WI b)
mutual
theorem IF(s:Nat->Nat):∀c:V,W1 (H7 s c)=(W1 c).map s
 | .ref b o l=>rfl
 | .ptr b i o=>rfl
 | .mp b=>rfl
 | .fn f a c=>by simp only[H7,W1,wE];rw[Yh s a,Yh s c]
 | .agg l=>by simp only[H7,W1];exact Yh s l
 | .Qs l=>by simp only[H7,W1];exact Yh s l
 | .int _ _=>rfl
 | .bool _=>rfl
 | .str _=>rfl
 | .Zo=>rfl
 | .Zx=>rfl
 | .QP _=>rfl
 | .Qy=>rfl
 | .Zk _=>rfl
 | .sl _ _ _=>rfl
 | .snap _=>rfl
 | .undef=>rfl
theorem Yh(s:Nat->Nat):∀l:List V,E0 (G9 s l)=(E0 l).map s
 | []=>rfl
 | c :: l=>by simp only[G9,E0,wE];rw[IF s c,Yh s l]
end
mutual
theorem IL(s r:Nat->Nat)(h:∀b,s (r b)=b):∀c:V,H7 s (H7 r c)=c
 | .ref b o l=>by simp[H7,h]
 | .ptr b i o=>by simp[H7,h]
 | .mp b=>by simp[H7,h]
 | .fn f a c=>by simp only[H7];rw[Yu s r h a,Yu s r h c]
 | .agg l=>by simp only[H7];rw[Yu s r h l]
 | .Qs l=>by simp only[H7];rw[Yu s r h l]
 | .int _ _=>rfl
 | .bool _=>rfl
 | .str _=>rfl
 | .Zo=>rfl
 | .Zx=>rfl
 | .QP _=>rfl
 | .Qy=>rfl
 | .Zk _=>rfl
 | .sl _ _ _=>rfl
 | .snap _=>rfl
 | .undef=>rfl
theorem Yu(s r:Nat->Nat)(h:∀b,s (r b)=b):∀l:List V,G9 s (G9 r l)=l
 | []=>rfl
 | c :: l=>by simp only[G9];rw[IL s r h c,Yu s r h l]
end
theorem Qa.VT(s r:Nat->Nat)(h:∀b,s (r b)=b)(k:Qa):(k.Qc r).Qc s=k:=by
 obtain⟨z,e,rows⟩:=k
 simp only[Qa.Qc,wJ]
 congr 1
 have:(G9 s ∘ G9 r)=id:=funext λl=>Yu s r h l
 simp_all
def QB(b:zg)(i:Nat):Option Qa:=if 1000000<=i then (b (un i)).map (Qa.Qc sh) else none
theorem R8(b:zg)(i:Nat):QB b (sh i)=(b i).map (Qa.Qc sh):=by
 unfold QB
 rw[if_pos (WI _),Jp]
def St.shift(st:St):St:=M5 st.n (λi=>H7 sh (st.t i)) (QB st.b)
def K6.sh:K6->K6
 | .ZQ b=>.ZQ (EV.sh b)
 | .nest b i j=>.nest (EV.sh b) i j
def Gh.shift(γ:Gh):Gh where
 loc:=λi=>if 1000000<=i then γ.loc (un i) else none
 own:=λB=>(γ.own B).map K6.sh
 Qr:=γ.Qr
theorem Qp.shift{G:ze}{γ:Gh}{st:St}{tmps:Array Value}{w:World}(hs:Qp G γ st tmps w):Qp G γ.shift st.shift tmps w:=by
 have loc:∀b,γ.shift.loc (sh b)=γ.loc b:=λb=>by simp only[Gh.shift];rw[if_pos (WI _),Jp]
 have tr:∀b,Tr γ st.b st.u γ.shift (QB st.b) Qw sh b:=λb=>by
  refine⟨λk hk=>⟨k.Qc sh,by rw[R8,hk];rfl,rfl,by simp[Qa.Qc],loc b⟩,(by grind [R8,OX])⟩
 refine⟨hs.n,λi=>Qj.Qc (γ1:=γ) (γ2:=γ.shift) (w:=w) (w':=w) (bs1:=st.b) (u1:=st.u) (bs2:=QB st.b) (u2:=Qw) (s:=sh) (λB o v h1 h2=>⟨h1,h2⟩) (λ_ _ h=>h) (hs.t i) (λb _=>tr b),λb k hk=>?_,λb k hk=>?_,hs.g,λB x hx=>?_⟩
 ·have hk':QB st.b b=some k:=hk
  unfold QB at hk'
  split at hk'
  ·rename_i hb
   obtain⟨k0,h0,rfl⟩:=zC.1 hk'
   have:=(hs.b _ _ h0).Qc (γ2:=γ.shift) (bs2:=QB st.b) (u2:=Qw) (s:=sh) (loc _) (λ_=>rfl) (λB hB=>by simp only[Gh.shift,hB];rfl) (λB i j hB=>by simp only[Gh.shift,hB];rfl) (λb' _=>tr b')
   rw[lQ hb] at this
   exact this
  ·simp at hk'
 ·have hk':QB st.b b=some k:=hk
  unfold QB at hk'
  split at hk'
  ·rename_i hb;exact Sn hb
  ·simp at hk'
 ·simp only[Gh.shift] at hx
  obtain⟨y,hy,_⟩:=zC.1 hx
  exact hs.o B y hy
def K6.un:K6->Option K6
 | .ZQ b=>if 1000000<=b then some (.ZQ (EV.un b)) else none
 | .nest b i j=>if 1000000<=b then some (.nest (EV.un b) i j) else none
def Gh.Qo(γ:Gh):Gh where
 loc:=λi=>γ.loc (sh i)
 own:=λB=>(γ.own B).bind K6.un
 Qr:=γ.Qr
structure St.known(st:St):Prop where
 t:∀i,∀b,b∈W1 (st.t i)->st.u b=true
 b:∀i k,st.b i=some k->st.u i=true/\∀b,b∈E0 k.rows.flatten->st.u b=true
theorem Qp.Qo{G:ze}{γ:Gh}{st:St}{tmps:Array Value}{w:World}(hs:Qp G γ st.shift tmps w)(hk:st.known):Qp G γ.Qo st tmps w:=by
 have tr:∀b0,st.u b0=true->Tr γ (QB st.b) Qw γ.Qo st.b st.u un (sh b0):=λb0 hu=>by
  rw[Tr,Jp,R8]
  refine⟨λk h=>?_,λh _=>⟨by simpa using h,hu⟩⟩
  obtain⟨k0,h0,rfl⟩:=zC.1 h
  exact⟨k0,h0,rfl,by simp[Qa.Qc],rfl⟩
 have ownB:∀B b0,γ.own B=some (.ZQ (sh b0))->γ.Qo.own B=some (.ZQ b0):=λB b0 h=>by
  simp_all [wM,if_pos,WI,Jp,Gh.Qo,K6.un]
 have ownN:∀B b0 i j,γ.own B=some (.nest (sh b0) i j)->γ.Qo.own B=some (.nest b0 i j):=λB b0 i j h=>by
  simp_all [wM,if_pos,WI,Jp,Gh.Qo,K6.un]
 refine⟨hs.n,λi=>?_,λb k hb=>?_,λb k hb=>(hk.b b k hb).1,hs.g,λB x hx=>?_⟩
 ·have h0:Qj γ w (QB st.b) Qw (H7 sh (st.t i)) (tmps.getD i undef):=hs.t i
  have h1:=Qj.Qc (γ1:=γ) (γ2:=γ.Qo) (w:=w) (w':=w) (bs1:=QB st.b) (u1:=Qw) (bs2:=st.b) (u2:=st.u) (s:=un) (λB o v h1 h2=>⟨h1,h2⟩) (λ_ _ h=>h) h0 (λb hb=>by
   rw[IF] at hb
   obtain⟨b0,hb0,rfl⟩:=zG.1 hb
   exact tr b0 (hk.t i b0 hb0))
  grind [IL,Jp,un,sh]
 ·have hsb:QB st.b (sh b)=some (k.Qc sh):=by rw[R8,hb];rfl
  have h0:D1 γ w (QB st.b) Qw (sh b) (k.Qc sh):=hs.b (sh b) _ hsb
  have h1:=h0.Qc (γ2:=γ.Qo) (bs2:=st.b) (u2:=st.u) (s:=un) (by show γ.loc (sh (un (sh b)))=_;rw[Jp]) (λ_=>rfl) (by grind [Jp]) (by grind [Jp])
   (λb' hb'=>by
    have:E0 (k.Qc sh).rows.flatten=(E0 k.rows.flatten).map sh:=by
     show E0 ((k.rows.map (G9 sh)).flatten)=_
     rw[YU,Yh]
    rw[this] at hb'
    obtain⟨b0,hb0,rfl⟩:=zG.1 hb'
    exact tr b0 ((hk.b b k hb).2 b0 hb0))
  grind [Jp,Qa.VT,un,sh]
 ·simp only[Gh.Qo] at hx
  obtain⟨y,hy,_⟩:=zU.1 hx
  exact hs.o B y hy
theorem O5.Qo{G:ze}{fx:Fx}{γ:Gh}{st:St}{w:World}{Q:Exit->St->Prop}{e:Exit}{a:Act}{w':World}
  (h:O5 G fx γ.shift st.shift w (λe s=>∃s',s=s'.shift/\s'.u=st.u/\s'.known/\Q e s') e a w') (hsu:∀b k,st.b b=some k->st.u b=true):O5 G fx γ st w Q e a w':=by
 obtain⟨_,γ1,h1,⟨h2,h3⟩,⟨Ds,m0,m1,m2,m3⟩,s',rfl,hu,hk,hq⟩:=h
 have none1:∀B,γ1.own B=none->γ1.Qo.own B=none:=(by grind [Gh.Qo])
 refine⟨s',γ1.Qo,h1.Qo hk,⟨⟨h2.os,h2.tape,h2.output,h2.size,h2.NR,h2.Qr,λB hB hn=>?_,h2.room⟩,λb hb=>?_⟩,⟨Ds,m0,m1,m2,(by grind)⟩,hq⟩
 ·obtain⟨a1,a2,a3⟩:=h2.free B hB (by grind [Gh.shift])
  exact⟨a1,none1 B a2,a3⟩
 ·obtain⟨p1,p2,p3⟩:=h3 (sh b) (by simp_all [zD,zA,WI,D7,sh])
  refine⟨(by grind),λh hn=>?_,λk hk'=>⟨?_,?_⟩⟩
  ·have:=p2 (OX b) (by show QB st.b (sh b)=none;rw[R8,hn];rfl)
   have h0:QB s'.b (sh b)=none:=this
   simp_all [R8]
  ·grind
  ·obtain⟨_,q⟩:=p3 (k.Qc sh) (by show QB st.b (sh b)=_;rw[R8,hk'];rfl)
   rcases q with q|⟨k',q1,q2,q3,q4⟩
   ·have h0:QB s'.b (sh b)=none:=q
    simp_all [R8]
   ·have h0:QB s'.b (sh b)=some k':=q1
    rw[R8] at h0
    obtain⟨k0,h00,rfl⟩:=zC.1 h0
    refine .inr ⟨k0,h00,q2,by simpa[Qa.Qc] using q3,?_⟩
    have q4:γ1.loc (sh b)=γ.shift.loc (sh b):=q4
    simp only[Gh.shift] at q4
    rw[if_pos (WI _),Jp] at q4
    exact q4
theorem XV(p:Nat×Qa)(l:List (Nat×Qa))(i:Nat):Qm (p :: l) i=if p.1=i then some p.2 else Qm l i:=by
 unfold Qm
 grind
theorem Uw:∀l:List (Nat×Qa),QB (Qm l)=Qm (l.map λp=>(sh p.1,p.2.Qc sh))
 | []=>funext λi=>by simp_all [QB,Qm]
 | p :: l=>funext λi=>by
  have ih:=congrFun (Uw l) i
  rw[wk,XV]
  unfold QB at ih ⊢
  rw[XV]
  by_cases h:sh p.1=i
  ·subst h
   rw[if_pos rfl,if_pos (WI _),Jp,if_pos rfl];rfl
  ·rw[if_neg h]
   by_cases hi:1000000<=i
   ·rw[if_pos hi] at ih ⊢
    have:¬p.1=un i:=(by grind [lQ])
    grind
   grind
theorem TC(p:Nat×V)(l:List (Nat×V))(i:Nat):Ze (p :: l) i=if p.1=i then p.2 else Ze l i:=by
 unfold Ze
 grind
theorem B8:∀l:List (Nat×V),(λi=>H7 sh (Ze l i))=Ze (l.map λp=>(p.1,H7 sh p.2))
 | []=>rfl
 | p :: l=>funext λi=>by
  have ih:=congrFun (B8 l) i
  grind [TC]
theorem JA(x:Ext)(n:Nat):(x.D n).st.shift=M5 n (Ze (x.ts.map λp=>(p.1,H7 sh p.2))) (Qm (x.bs.map λp=>(sh p.1,p.2.Qc sh))):=by
 rw[<-B8,<-Uw]
 rfl
end Go.EV
namespace Go.EV
open Go
theorem U6.Qhh{P:Program}{G:ze}{ops:Array Oper}{st:St}{Q:Exit->St->Prop}{i:Nat}{rest:List Nat}{o:Oper}{d:Nat}{t:TypeId}{x y:Operand}{b:TypeId}{own:Bool}{z:Nat}{rows:List (List V)}
  (hi:ops[i]?=some o) (hg:M3 ops st o=some true) (ho:o.op=.binOp .eql t x y b) (hd:o.dst=some d) (hdn:H6 st.n (some d)=true) (ht:S6 P t=true) (hx:st.ev G x=some (.sl own z rows)) (hy:st.ev G y=some .Qy)
  (h1:rows=[]->U6 P G ops rest (st.put (some d) (.bool true)) Q) (h2:U6 P G ops rest (st.put (some d) (.bool false)) Q):U6 P G ops (i :: rest) st Q:=λfx γ a w hs hdf=>by
 simp only[wpOpsIn]
 rw[hi]
 simp only
 rw[if_pos (W2 hs hg)]
 have key:∀r:Bool,(execOp a.eval o).run P w=.ok (.value (.bool r)) w->U6 P G ops rest (st.put (some d) (.bool r)) Q->o.wpIn (RF fx.ro) 0 P a w (λa' w'=>wpOpsIn (RF fx.ro) 0 P ops (O5 G fx γ st w Q) rest a' w') (O5 G fx γ st w Q):=λr hr hT=>by
  have hw:∀{next:Act->World->Prop} {Q':Exit->Act->World->Prop},next (a.put o.dst (.bool r)) w->o.wp P a w next Q':=λh=>by
   unfold Oper.wp;rw[hr];exact h
  refine IG (hw (D2 _ _ _)) (hw ?_)
  rw[hd]
  have:=hT fx γ (a.put (some d) (.bool r)) w (hs.put hdn (.data (.bool r))) (by rw[D2];exact hdf)
  exact H0 (λe a2 w2 hl=>hl.grow (st:=st) ⟨.refl γ w,Zg.refl hs.u⟩) rest _ w this
 have ev : execOp a.eval o = (do let v <- (do eqGuard .eql t x y (a.eval x) (a.eval y); binOp .eql t (a.eval x) (a.eval y)); pure (.value v)) := by simp only [execOp, ho]
 have yv:=(hs.ev hy).QI
 obtain⟨e,hu⟩:∃e,P.underlying t=some (.slice e):=by grind [S6]
 rcases(hs.ev hx).Ha with⟨a0,xv,hr⟩|⟨B,o',cap,vs,xv,-,-,-,-⟩
 ·cases a0 with
  | some a0=>
   refine key false ?_ h2
   rw[ev,xv,yv,zL]
   have:=(E3 (P:=P) (w:=w) (t:=t) (x:=.slice (some a0) 0 0) (y:=.slice none 0 0) (r:=false) x y (λop=>by cases op<;>simp[eqGuard]) (λd=>by simp[Op.equalIn,zE hu]) rfl rfl).1
   rw[this];rfl
  | none=>
  refine key true ?_ (h1 hr)
  rw[ev,xv,yv,zL]
  have:=(E3 (P:=P) (w:=w) (t:=t) (x:=.slice none 0 0) (y:=.slice none 0 0) (r:=true) x y (λop=>by cases op<;>simp[eqGuard]) (λd=>by simp[Op.equalIn,zE hu]) rfl rfl).1
  rw[this];rfl
 ·refine key false ?_ h2
  rw[ev,xv,yv,zL]
  have:=(E3 (P:=P) (w:=w) (t:=t) (x:=.slice (some ⟨B,o',none⟩) rows.length cap) (y:=.slice none 0 0) (r:=false) x y (λop=>by cases op<;>simp[eqGuard]) (λd=>by simp[Op.equalIn,zE hu]) rfl rfl).1
  rw[this];rfl
theorem Ow{st:St}{n:Nat}{ts:List (Nat×V)}(hn:st.n=n)(_:∀b,1000000<=b->st.u b=true)(ht:∀p,p∈ts->st.t p.1=p.2/\okV Qw p.2=true):F5 st ((Ext.l .normal ts []).D n).st where
 n:=hn.symm
 t:=λi=>by
  show (match ts.find? (λp=>p.1==i) with|some p=>p.2|none=>.undef)=_\/_
  cases hf:ts.find? (λp=>p.1==i) with
  | none=>exact .inl rfl
  | some p=>
   obtain⟨h1,h2⟩:=G8 hf
   obtain⟨h3,h4⟩:=ht p h1
   subst h2
   refine .inr ⟨?_,L9 (u:=Qw) (λb hb=>?_) _ (by grind)⟩
   ·show (match ts.find? (λq=>q.1==p.1) with|some p=>p.2|none=>.undef)=_
    grind
   ·rw[D.Qqf];exact Mk (of_decide_eq_true hb)
 b:=λ_=>.inl rfl
 p:=λb hb=>by rw[D.Qqf];exact Mk (Uj hb)
def LF(ops:Array Oper):Option TypeId:=match ops[1]? with
 | some o=>match o.op,o.dst,o.guard with
  | .binOp .eql t (.tmp 3) (.const (.slice none 0 0)) _,some 4,none=>some t
  | _,_,_=>none
 | none=>none
theorem LL{ops:Array Oper}{t:TypeId}(h:LF ops=some t):∃(o:Oper) (tb:TypeId),ops[1]?=some o/\o.op=.binOp .eql t (.tmp 3) (.const (.slice none 0 0)) tb/\o.dst=some 4/\o.guard=none:=by
 grind [Option.some.injEq,LF]
def Oi:Option Code->Array Oper
 | some (.seq (.region _ o _) _)=>o
 | _=>#[]
def Oa:Option Code->Array Oper
 | some (.seq _ (.seq (.seq (.region _ o _) _) _))=>o
 | _=>#[]
def MK:Option Code->Code
 | some (.seq _ (.seq (.seq _ (.cond _ c _)) _))=>c
 | _=>.skip
def Wb:Option Code->Code
 | some (.seq _ (.seq _ c))=>c
 | _=>.skip
theorem Nl{P:Program}{G:ze}{f:FuncId}{fn:Func}{yes rest:Code}{ops0 ops1:Array Oper}{t:TypeId}{z:Nat}{α:Type}{ty:Ty α}{l:List α}{kp:List Nat}{ρ:Type}{g:T P G ρ}{r:ρ}{hx:([].all λ(p:Nat×Qa)=>!([BT.of 7 ty z ([]++l)].any λx=>x.id==p.1))=true}
  (hm:P.follows .mixedOrders=true) (hM:z < Y8) (hf:P.funcs[f]?=some fn) (hb:fn.body=some (.seq (.region 0 ops0 false) (.seq (.seq (.region 1 ops1 false) (.cond (.tmp 4) yes .skip)) rest)))
  (hn:8=max fn.ntmps 1) (hr:fn.results.toList=[.tmp 2]) (z0:ops0.size=1) (z1:ops1.size=2)
  (h0:stepG P G ops0 0 (U3 8 [.sl false z (l.map ty.c)] λ_=>none)=some ((U3 8 [.sl false z (l.map ty.c)] λ_=>none).put (some 2) .Qy))
  (h1:stepG P G ops1 0 ((U3 8 [.sl false z (l.map ty.c)] λ_=>none).put (some 2) .Qy)=some (((U3 8 [.sl false z (l.map ty.c)] λ_=>none).put (some 2) .Qy).put (some 3) (.sl false z (l.map ty.c))))
  (hq:LF ops1=some t) (ht:S6 P t=true)
  (kY:Y1 P G [2] 8 yes (Ext.l .normal [(2,.Qy)] []) (.done ():T P G Unit) (λ_=>Ext.l .ret [(2,.Qy)] []))
  (kR:Y1 P G kp 8 rest (Ext.l .normal [(0,.sl false z (l.map ty.c)),(2,.Qy)] []) g (λ_=>Ext.of .ret [(2,.ref 7 0 ([]++l).length)] [] [BT.of 7 ty z ([]++l)] hx))
  (hE:(Ext.of .ret [(2,.ref 7 0 ([]++l).length)] [] [BT.of 7 ty z ([]++l)] hx).ok=true) (hrun:g.run=some r) :
  QR P G f [.sl false z (l.map ty.c)] (Qm []) (.ref 7 0 ([]++l).length) (Qm [(7,⟨z,true,([]++l).map ty.c⟩)]):=by
 obtain⟨o,tb,hi,ho,hd,hg⟩:=LL hq
 refine Nt (n:=8) hf hb hn (by rfl) ?_
 rw[hr]
 have e0:Qm []=(λ_=>none:zg):=rfl
 rw[e0]
 refine TV.seq (TV.region ?_)
 rw[z0]
 refine U6.cons (C0 h0) (U6.nil ?_)
 show TV P G _ _ _
 refine TV.seq (TV.seq (TV.region ?_))
 rw[z1]
 refine U6.cons (C0 h1) ?_
 refine U6.Qhh (rows:=l.map ty.c) (own:=false) (z:=z) hi (by unfold M3;rw[hg]) ho hd rfl ht rfl rfl (λhnil=>U6.nil ?_) (U6.nil ?_)
 ·
  have hl:l=[]:=List.map_eq_nil_iff.1 hnil
  subst hl
  show TV P G _ _ _
  refine TV.cond (t:=true) rfl ?_
  refine TV.ghost (QU.forget (Ow (n:=8) (ts:=[(2,.Qy)]) rfl (λb hb=>by simp[U3,St.put,St.QG,Qw,hb]) (λp hp=>?_))) ?_
  ·simp only[wm] at hp;subst hp;exact⟨rfl,rfl⟩
  refine TV.rel (kY.tv hm (r:=()) rfl rfl) λe s he=>?_
  obtain⟨rfl,hs⟩:=he
  refine Rel.ghost hs (Rel.ghost (QU.oL (d:=7) (t:=2) z hM rfl rfl) (Rel.of ?_))
  show NN P _ _ _ _ _
  refine⟨.inr rfl,rfl,λb k hk=>?_⟩
  simp only[Qm,List.find?] at hk
  split at hk
  ·rename_i x hx'
   split at hx'
   ·rename_i hb'
    simp only[zx] at hx' hk
    subst hx';subst hk
    have:(7:Nat)=b:=by grind
    subst this;rfl
   ·simp at hx'
  ·simp at hk
 ·show TV P G _ _ _
  refine TV.cond (t:=false) rfl (TV.skip ?_)
  show TV P G _ _ _
  refine TV.ghost (QU.forget (Ow (n:=8) (ts:=[(0,.sl false z (l.map ty.c)),(2,.Qy)]) rfl (λb hb=>by simp[U3,St.put,St.QG,Qw,hb]) (λp hp=>?_))) ?_
  ·simp only[zN,zR,or_false] at hp
   rcases hp with rfl|rfl
   ·exact⟨rfl,rfl⟩
   ·exact⟨rfl,rfl⟩
  refine TV.rel (kR.tv hm hrun hE) λe s he=>?_
  obtain⟨rfl,hs⟩:=he
  refine Rel.ghost hs (Rel.of ?_)
  show NN P _ _ _ _ _
  refine⟨.inr rfl,rfl,λb k hk=>?_⟩
  exact hk
def X9(agg:Bool)(l:List V):V:=match agg with
 | true=>.agg l
 | false=>l.headD .undef
def G1(P:Program)(t:TypeId)(xs ys:List V):Option Bool:=
 match P.underlying t with
 | some (.int _)=>match xs,ys with
  | [.int k a],[.int k' b]=>if k=k' then some (a==b) else none
  | _,_=>none
 | some .string=>match xs,ys with
  | [.str a],[.str b]=>some (decide (a=b))
  | _,_=>none
 | some (.struct _)=>Ur P t xs ys
 | some (.array _ _)=>KY P t xs ys
 | _=>none
theorem Ou{P:Program}{t:TypeId}{k:IntKind}(hu:P.underlying t=some (.int k)){xs ys:List V}{q:Bool}(h:G1 P t xs ys=some q):∃k1 a b,xs=[.int k1 a]/\ys=[.int k1 b]/\q=(a==b):=by
 unfold G1 at h
 grind
theorem Oj{P:Program}{t:TypeId}(hu:P.underlying t=some .string){xs ys:List V}{q:Bool}(h:G1 P t xs ys=some q):∃a b,xs=[.str a]/\ys=[.str b]/\q=decide (a=b):=by
 unfold G1 at h
 grind
def K8(P:Program)(t:TypeId):Bool:=match P.underlying t with
 | some (.struct _)=>true
 | some (.array _ _)=>true
 | _=>false
theorem EB{P:Program}{t:TypeId}(h:K8 P t=true):(∃fs,P.underlying t=some (.struct fs))\/∃n e,P.underlying t=some (.array n e):=by
 grind [K8]
theorem PZ{P:Program}{t:TypeId}{xs ys:List V}{q:Bool}(h:G1 P t xs ys=some q):(∃k,P.underlying t=some (.int k))\/P.underlying t=some .string\/K8 P t=true:=by
 unfold G1 at h
 grind [K8]
theorem Iu{P:Program}{γ:Gh}{w:World}{bs:zg}{u:zh}{t:TypeId}{xs ys:List V}{r:Bool}(h:Ur P t xs ys=some r)
  {x y:Value} (hx:Qj γ w bs u (.agg xs) x) (hy:Qj γ w bs u (.agg ys) y):(Op.equal t x y).run P w=.ok r w:=by
 unfold Ur at h
 split at h
 ·rename_i fs hu
  split at h
  ·rename_i hc
   simp only[zD,wa] at hc
   obtain⟨⟨hf,hp⟩,hg⟩:=hc
   obtain⟨vx,rfl,lx,cx⟩:=hx.QX
   obtain⟨vy,rfl,ly,cy⟩:=hy.QX
   have hfo:P.fieldsOf t=fs:=by simp[Program.fieldsOf,hu]
   show (Op.equalIn 10000 t (.agg vx.toArray) (.agg vy.toArray)).run P w=.ok r w
   rw[show (10000:Nat)=9999+1 from rfl,run_equalIn_struct w 9999 t _ _ (by rw[hfo];exact hu) hp,hfo]
   refine Uk (γ:=γ) (bs:=bs) (u:=u) 100 9999 _ _ fs.toList 0 xs ys r (by omega) hf h ?_ ?_
   ·intro i c hc
    obtain⟨hlt,_⟩:=we.1 hc
    have hv:vx[i]?=some (vx[i]'(by omega)):=(by grind)
    grind
   ·intro i c hc
    obtain⟨hlt,_⟩:=we.1 hc
    have hv:vy[i]?=some (vy[i]'(by omega)):=(by grind)
    grind
  ·simp at h
 ·simp at h
theorem Ij{P:Program}{γ:Gh}{w:World}{bs:zg}{u:zh}{t:TypeId}{xs ys:List V}{r:Bool}(ha:K8 P t=true)(h:G1 P t xs ys=some r)
  {x y:Value} (hx:Qj γ w bs u (.agg xs) x) (hy:Qj γ w bs u (.agg ys) y):(Op.equal t x y).run P w=.ok r w:=by
 unfold G1 at h
 grind [EB,Iu,WD]
theorem Jz{P:Program}{γ:Gh}{w:World}{bs:zg}{u:zh}(em:Bool) :
  ∀(n e:Nat) (xs:Array Value) (fs:List Field) (j:Nat) (cs:List V),n<=e->K0 P n fs j cs=true->(∀(i:Nat) (c:V),cs[i]?=some c->∃v,xs[j+i]?=some v/\Qj γ w bs u c v)->
   (forIn fs PUnit.unit (λf _ => if f.name ≠ "_" then (do
     let c <-part f.type xs f.offset
     Instr.checkKey em e f.type c
     pure (ForInStep.yield PUnit.unit)) else pure (ForInStep.yield PUnit.unit)):Sem PUnit).run P w=.ok PUnit.unit w
 | 0,_,_,_,_,_,_,hf,_=>by simp[K0] at hf
 | n+1,0,_,_,_,_,hn,_,_=>by omega
 | n+1,e+1,xs,[],j,cs,hn,hf,hx=>by simp
 | n+1,e+1,xs,f :: fs,j,cs,hn,hf,hx=>by
  simp only[K0,zD,beq_iff_eq,bne_iff_ne,ne_eq] at hf
  obtain⟨⟨ho,hname⟩,hk⟩:=hf
  have shift:∀(m:Nat) (i:Nat) (c:V),(cs.drop m)[i]?=some c->∃v,xs[j+m+i]?=some v/\Qj γ w bs u c v:=(by grind)
  have fin:∀(m:Nat) (x:Value),K0 P n fs (j+m) (cs.drop m)=true->(part f.type xs f.offset).run P w=.ok x w->(Instr.checkKey em (e+1) f.type x).run P w=.ok () w->
    (forIn (f :: fs) PUnit.unit (λf _ => if f.name ≠ "_" then (do
     let c <-part f.type xs f.offset
     Instr.checkKey em (e+1) f.type c
     pure (ForInStep.yield PUnit.unit)) else pure (ForInStep.yield PUnit.unit)):Sem PUnit).run P w=.ok PUnit.unit w:=by
   intro m x h1 h2 h3
   have ih:=Jz em n (e+1) xs fs (j+m) (cs.drop m) (by omega) h1 (shift m)
   simp_all
  have part1:∀{d:TypeDesc} (z:Value),P.underlying f.type=some d->(∀q,d≠.struct q)->(∀p q,d≠.array p q)->xs[j]?=some z->(part f.type xs f.offset).run P w=.ok z w:=by
   intro d z hu h1 h2 hz
   cases d<;>first|exact absurd rfl (h1 _)|exact absurd rfl (h2 _ _)|simp[part,W0 hu,ho,hz]
  split at hk
  ·rename_i gs hu
   split at hk
   rotate_left
   ·simp at hk
   rename_i i hi
   simp only[zD,wa,zA] at hk
   obtain⟨⟨⟨_,hlen⟩,hin⟩,hrest⟩:=hk
   have px:(part f.type xs f.offset).run P w=.ok (.agg (xs.extract j (j+i.size))) w:=by simp[part,W0 hu,sizeOf,typeInfo,hi,ho]
   refine fin i.size _ hrest px ?_
   have inner:=Jz (γ:=γ) (w:=w) (bs:=bs) (u:=u) em n e (xs.extract j (j+i.size)) gs.toList 0 (cs.take i.size) (by omega) hin (by grind)
   rw[Instr.checkKey]
   simp_all [zL,zE,zM,Array.forIn_toList,wj]
  ·rename_i ik hu
   split at hk
   rotate_left
   ·simp at hk
   rename_i k a cs
   obtain⟨x,h0,hxr⟩:=hx 0 _ rfl
   have:=hxr.Ql;subst this
   exact fin 1 _ hk (part1 _ hu (by simp) (by simp) h0) (by simp[Instr.checkKey,zE hu])
  ·rename_i hu
   split at hk
   rotate_left
   ·simp at hk
   obtain⟨x,h0,hxr⟩:=hx 0 _ rfl
   exact fin 1 _ hk (part1 _ hu (by simp) (by simp) h0) (by simp[Instr.checkKey,zE hu])
  ·rename_i hu
   split at hk
   rotate_left
   ·simp at hk
   obtain⟨x,h0,hxr⟩:=hx 0 _ rfl
   exact fin 1 _ hk (part1 _ hu (by simp) (by simp) h0) (by simp[Instr.checkKey,zE hu])
  ·simp at hk
section
variable {P:Program} {γ:Gh} {w:World} {bs:zg} {u:zh}
theorem Iw{t:TypeId}{xs:List V}(h:(G1 P t xs xs).isSome=true){v:Value}(hr:Qj γ w bs u (X9 (K8 P t) xs) v)(em:Bool):(Instr.checkKey em 10000 t v).run P w=.ok () w:=by
 obtain⟨q,h⟩:=Option.isSome_iff_exists.1 h
 unfold G1 at h
 split at h
 ·rename_i k hu
  have ha:K8 P t=false:=by simp[K8,hu]
  rw[ha] at hr
  split at h
  ·have:=Qj.Ql (hr:Qj γ w bs u (.int _ _) v);subst this
   exact(λn=>by simp[Instr.checkKey,zE hu]:∀n,(Instr.checkKey em (n+1) t _).run P w=.ok () w) 9999
  ·simp at h
 ·rename_i hu
  have ha:K8 P t=false:=by simp[K8,hu]
  rw[ha] at hr
  split at h
  ·have:=Qj.QH (hr:Qj γ w bs u (.str _) v);subst this
   exact(λn=>by simp[Instr.checkKey,zE hu]:∀n,(Instr.checkKey em (n+1) t _).run P w=.ok () w) 9999
  ·simp at h
 ·rename_i fs hu
  have ha:K8 P t=true:=by simp[K8,hu]
  rw[ha] at hr
  obtain⟨vs,rfl,lx,cx⟩:=(hr:Qj γ w bs u (.agg xs) v).QX
  unfold Ur at h
  rw[hu] at h
  simp only at h
  split at h
  ·rename_i hc
   simp only[zD,wa] at hc
   rw[show (10000:Nat)=9999+1 from rfl,Instr.checkKey]
   simp only[zL,zE hu,zM]
   rw[<-Array.forIn_toList]
   have key:=Jz (γ:=γ) (w:=w) (bs:=bs) (u:=u) em 100 9999 vs.toArray fs.toList 0 xs (by omega) hc.1.1 λi c hc=>by
    have hlt:=(we.1 hc).1
    have hv:vs[i]?=some (vs[i]'(by omega)):=(by grind)
    grind
   simp_all
  ·simp at h
 ·rename_i n e hu
  have ha:K8 P t=true:=by simp[K8,hu]
  rw[ha] at hr
  obtain⟨vs,rfl,lx,cx⟩:=(hr:Qj γ w bs u (.agg xs) v).QX
  unfold KY at h
  rw[hu] at h
  simp only at h
  split at h
  ·rename_i hc
   simp only[zD,wa,zA] at hc
   obtain⟨⟨⟨⟨hn,hf⟩,h1⟩,hi⟩,hg⟩:=hc
   obtain⟨i,hi⟩:=Option.isSome_iff_exists.1 hi
   rw[show (10000:Nat)=9998+1+1 from rfl,Instr.checkKey]
   simp only[zL,zE hu,zM]
   simp only[Std.Legacy.Range.forIn_eq_forIn_range',Std.Legacy.Range.size,Nat.sub_zero,Nat.add_one_sub_one,Nat.div_one]
   have key:=Hg (P:=P) (w:=w) em 9998 e vs.toArray hi h1 xs 0 hf (by simp[lx])
   grind [Result.andThen_ok,Sem.run_pure]
  ·simp at h
 ·simp at h
def ZT:List Bool->List MapEntry->Nat->Option (Nat×Value)
 | q :: qs,e :: es,i=>match q with
  | true=>some (i,e.val)
  | false=>ZT qs es (i+1)
 | _,_,_=>none
theorem Dq{α:Type}(p:α->Bool):∀(l:List α) (es:List MapEntry) (i:Nat),es.length=l.length->
  ZT (l.map p) es i=match l.findIdx? p with|some j=>(es[j]?).map λe=>(i+j,e.val)|none=>none
 | [],[],i,_=>rfl
 | [],e :: es,i,h=>by simp at h
 | x :: l,[],i,h=>by simp at h
 | x :: l,e :: es,i,h=>by
  simp only[wk,ZT,List.findIdx?_cons]
  cases hp:p x with
  | true=>simp
  | false=>
   simp only[Bool.false_eq_true,if_false]
   rw[Dq p l es (i+1) (by simpa using h)]
   grind
theorem Lj{t:TypeId}{xs:List V}{kv:Value}(hk:Qj γ w bs u (X9 (K8 P t) xs) kv)(es:List MapEntry)(qs:List Bool)
  (hl:qs.length=es.length) (h:∀(j:Nat) (e:MapEntry),es[j]?=some e->∃q ys,qs[j]?=some q/\G1 P t xs ys=some q/\Qj γ w bs u (X9 (K8 P t) ys) e.key) (hs:(G1 P t xs xs).isSome=true) :
  (Instr.findKey t kv es).run P w=.ok (ZT qs es 0) w:=by
 obtain⟨q0,hs⟩:=Option.isSome_iff_exists.1 hs
 have now:∀d,P.underlying t=some d->(∀(j:Nat) (e:MapEntry),es[j]?=some e->∃q,qs[j]?=some q/\Instr.sameNow d kv e.key=some q)->(Instr.findKey t kv es).run P w=.ok (ZT qs es 0) w:=λd hu hq=>by
  refine MapKept.run_findKey hu ?_
  have gen:∀(es:List MapEntry) (qs:List Bool) (i:Nat),qs.length=es.length->(∀(j:Nat) (e:MapEntry),es[j]?=some e->∃q,qs[j]?=some q/\Instr.sameNow d kv e.key=some q)->Instr.findNow d kv es i=some (ZT qs es i):=by
   intro es
   induction es with
   | nil=>intro qs i hl _;cases qs with|nil=>rfl|cons=>simp at hl
   | cons e es ih=>
    intro qs i hl hq
    cases qs with
    | nil=>simp at hl
    | cons q qs=>
     obtain⟨q',h1,h2⟩:=hq 0 e rfl
     simp only[wR,zx] at h1
     subst h1
     simp only[Instr.findNow,h2,ZT]
     cases q with
     | true=>rfl
     | false=>exact ih qs (i+1) (by simpa using hl) λj e' he=>by simpa using hq (j+1) e' (by simpa using he)
  grind
 rcases PZ hs with⟨k,hu⟩|hu|ha
 ·have ha:K8 P t=false:=by simp[K8,hu]
  rw[ha] at hk
  obtain⟨k1,a,_,rfl,_⟩:=Ou hu hs
  have:=Qj.Ql (hk:Qj γ w bs u (.int k1 a) kv);subst this
  refine now _ hu λj e he=>?_
  obtain⟨q,ys,h1,h2,h3⟩:=h j e he
  refine⟨q,h1,?_⟩
  obtain⟨k2,a2,b2,e1,rfl,rfl⟩:=Ou hu h2
  simp only[List.cons.injEq,V.int.injEq,and_true] at e1
  obtain⟨rfl,rfl⟩:=e1
  rw[ha] at h3
  rw[Qj.Ql (h3:Qj γ w bs u (.int k1 b2) e.key)]
  simp[Instr.sameNow]
 ·have ha:K8 P t=false:=by simp[K8,hu]
  rw[ha] at hk
  obtain⟨a,_,rfl,_⟩:=Oj hu hs
  have:=Qj.QH (hk:Qj γ w bs u (.str a) kv);subst this
  refine now _ hu λj e he=>?_
  obtain⟨q,ys,h1,h2,h3⟩:=h j e he
  refine⟨q,h1,?_⟩
  obtain⟨a2,b2,e1,rfl,rfl⟩:=Oj hu h2
  simp only[List.cons.injEq,V.str.injEq,and_true] at e1
  subst e1
  rw[ha] at h3
  rw[Qj.QH (h3:Qj γ w bs u (.str b2) e.key)]
  simp only[Instr.sameNow,zx]
  exact Bool.eq_iff_iff.2 (by rw[MapKept.bytes_beq];simp)
 ·rw[ha] at hk
  have e1:(Instr.findKey t kv es).run P w=(Instr.findAsking t kv es).run P w:=by
   rcases EB ha with⟨fs,hu⟩|⟨n,e,hu⟩
   ·cases es with
    | nil=>simp[Instr.findKey,zE hu,Instr.findNow,Instr.findAsking]
    | cons e es=>simp[Instr.findKey,zE hu,Instr.findNow,Instr.sameNow]
   ·cases es with
    | nil=>simp[Instr.findKey,zE hu,Instr.findNow,Instr.findAsking]
    | cons e es=>simp[Instr.findKey,zE hu,Instr.findNow,Instr.sameNow]
  rw[e1]
  have gen:∀(es:List MapEntry) (qs:List Bool) (i:Nat),qs.length=es.length->(∀(j:Nat) (e:MapEntry),es[j]?=some e->∃q,qs[j]?=some q/\(Op.equal t kv e.key).run P w=.ok q w)->(Instr.findAsking t kv es i).run P w=.ok (ZT qs es i) w:=by
   intro es
   induction es with
   | nil=>intro qs i hl _;cases qs with|nil=>rfl|cons=>simp at hl
   | cons e es ih=>
    intro qs i hl hq
    cases qs with
    | nil=>simp at hl
    | cons q qs=>
     obtain⟨q',h1,h2⟩:=hq 0 e rfl
     simp only[wR,zx] at h1
     subst h1
     simp only[Instr.findAsking,zL,h2,zM,ZT]
     cases q with
     | true=>simp
     | false=>simpa using ih qs (i+1) (by simpa using hl) λj e' he=>by simpa using hq (j+1) e' (by simpa using he)
  refine gen es qs 0 hl λj e he=>?_
  obtain⟨q,ys,h1,h2,h3⟩:=h j e he
  refine⟨q,h1,?_⟩
  rw[ha] at h3
  exact Ij ha h2 hk h3
end
theorem Qp.bO{G:ze}{γ:Gh}{st:St}{tmps:Array Value}{w:World}(h:Qp G γ st tmps w){d z:Nat}(hM:Y8<=z)(hu:st.u d=false) :
  Qp G (γ.add d w.heap.size) (st.Qu d ⟨z,true,[]⟩) tmps (w.alloc (.map #[] 0))/\Qe γ w (γ.add d w.heap.size) (w.alloc (.map #[] 0))/\
   L5 γ st.b st.u (γ.add d w.heap.size) (st.Qu d ⟨z,true,[]⟩).b (st.Qu d ⟨z,true,[]⟩).u:=by
 have hh:(w.alloc (.map #[] 0)).heap=w.heap.push (.map #[] 0):=rfl
 have g:=Qe.push (γ:=γ) (w1:=w.alloc (.map #[] 0)) hh ⟨rfl,rfl,rfl⟩ d
 have bl:L5 γ st.b st.u (γ.add d w.heap.size) (st.Qu d ⟨z,true,[]⟩).b (st.Qu d ⟨z,true,[]⟩).u:=h.AO hu λb hb=>by simp only[Gh.add];rw[if_neg hb]
 refine⟨⟨h.n,λi=>(h.t i).mono g bl,λb k hk=>?_,λb k hk=>?_,h.g.grow g,λB x hx=>?_⟩,g,bl⟩
 ·simp only[St.Qu] at hk
  by_cases hb:b=d
  ·subst hb
   rw[if_pos rfl] at hk
   simp only[zx] at hk;subst hk
   refine .inr (.inl ⟨hM,w.heap.size,#[],0,by simp[Gh.add],by simp[Gh.add],by rw[hh];simp,rfl,λr hr=>by simp at hr,⟨λe he=>by simp at he,by simp,λe he=>by simp at he⟩,λi c hc=>by simp at hc⟩)
  ·rw[if_neg hb] at hk
   have hlt:∀B x,γ.own B=some x->B < w.heap.size/\B≠w.heap.size:=λB x hx=>by have:=h.o B x hx;omega
   rcases h.b b k hk with⟨v1,v2⟩|hm|⟨hM2,B,o,cs',e',h1,h2,h3,h4,h5,h6,h7,h8⟩
   ·exact .inl ⟨by simp_all [if_neg,Gh.add],v2⟩
   ·exact .inr (.inl (hm.same (by simp only[Gh.add];rw[if_neg hb]) (λB _ hB=>⟨by simp_all [if_neg,Gh.add],(by grind)⟩) λc v hr=>hr.mono g bl))
   ·have hne:=(hlt B _ h2).2
    refine .inr (.inr ⟨hM2,B,o,cs',e',by simp_all [if_neg,Gh.add],by simp_all [if_neg,Gh.add],h3.of_eq (by grind),h4,h5,λi c hc=>?_,
     by simp_all [if_neg,Gh.add],by simp_all [if_neg,Gh.add]⟩)
    obtain⟨v,a1,a2,a3,a4⟩:=h6 i c hc
    refine⟨v,a1,a2.mono g bl,a3,?_⟩
    replace a4:=a4.grow g (λB hB=>by
     simp_all [if_neg,zH,Gh.add])
    unfold D0 at a4 ⊢
    split at a4
    ·rcases a4 with a4|a4
     ·exact .inl a4
     simp_all [if_neg,Gh.add]
    ·trivial
 ·simp only[St.Qu] at hk ⊢
  by_cases hb:b=d
  ·subst hb;simp
  ·rw[if_neg hb] at hk;rw[if_neg hb];exact h.u b k hk
 ·simp only[Gh.add] at hx
  rw[hh];simp only[Array.size_push]
  split at hx
  ·omega
  ·have:=h.o B x hx;omega
theorem Qe.Py{γ:Gh}{w:World}{B clock clock':Nat}{es es':Array MapEntry}{x:K6}(hheap:w.heap[B]?=some (.map es clock))(hown:γ.own B=some x):Qe γ w γ (w.putObj B (.map es' clock')) where
 os:=rfl
 tape:=rfl
 output:=rfl
 size:=by simp
 NR:=(by grind [Us,World.putObj_heap_other,cellAt,World.cell?])
 Qr:=λ_ _=>zH _
 free:=λB' _ ho=>⟨(by grind [World.putObj_heap_other]),ho,rfl⟩
 room:=λB' cs e fz hc=>⟨cs,fz,by
  grind [World.putObj_heap_other],rfl,.inl rfl⟩
theorem Qp.Py{G:ze}{γ:Gh}{st:St}{tmps:Array Value}{w:World}(h:Qp G γ st tmps w){b:Nat}{k:Qa}(hk:st.b b=some k){B clock clock':Nat}{es es':Array MapEntry}{rows':List (List V)}
  (hM:Y8<=k.size) (hloc:γ.loc b=some (B,0)) (hown:γ.own B=some (.ZQ b)) (hheap:w.heap[B]?=some (.map es clock)) (hn:es'.size=rows'.length)
  (hz:∀r,r∈rows'->r.length=mwd k.size) (hes:NG k.size es'/\oW es' clock')
  (hc:∀(i:Nat) (c:V),rows'.flatten[i]?=some c->∃v,(es'.toList.flatMap (G3 k.size))[i]?=some v/\Qj γ w st.b st.u c v/\v.oneCell'=true) :
  Qp G γ (st.Qu b ⟨k.size,k.Qf,rows'⟩) tmps (w.putObj B (.map es' clock'))/\Qe γ w γ (w.putObj B (.map es' clock'))/\L5 γ st.b st.u γ (st.Qu b ⟨k.size,k.Qf,rows'⟩).b (st.Qu b ⟨k.size,k.Qf,rows'⟩).u:=by
 have g:Qe γ w γ (w.putObj B (.map es' clock')):=Qe.Py hheap hown
 have hB:B < w.heap.size:=h.o B _ hown
 have bl:L5 γ st.b st.u γ (st.Qu b ⟨k.size,k.Qf,rows'⟩).b (st.Qu b ⟨k.size,k.Qf,rows'⟩).u:=by
  refine⟨(by grind [St.Qu]),λb' hb hn=>?_,λb' k' hk'=>?_⟩
  ·have:b'≠b:=(by grind)
   simp_all [if_neg,St.Qu]
  ·by_cases hb:b'=b
   ·subst hb
    rw[hk] at hk';simp only[zx] at hk';subst hk'
    exact⟨by simp[St.Qu],.inr ⟨⟨k.size,k.Qf,rows'⟩,by simp[St.Qu],rfl,λhs=>absurd hs (Nat.not_lt_of_le hM),rfl⟩⟩
   ·exact⟨by simp only[St.Qu];rw[if_neg hb];exact h.u b' k' hk',.inr ⟨k',by simp_all [if_neg,St.Qu],rfl,λ_=>rfl,rfl⟩⟩
 refine⟨⟨h.n,λi=>(h.t i).mono g bl,λb' k' hk'=>?_,λb' k' hk'=>?_,h.g.grow g,λB' x hx=>by simpa using h.o B' x hx⟩,g,bl⟩
 ·simp only[St.Qu] at hk'
  by_cases hb:b'=b
  ·subst hb
   rw[if_pos rfl] at hk'
   simp only[zx] at hk';subst hk'
   refine .inr (.inl ⟨hM,B,es',clock',hloc,hown,World.putObj_heap_same hB,hn,hz,hes,λi c hi=>?_⟩)
   obtain⟨v,h1,h2,h3⟩:=hc i c hi
   exact⟨v,h1,h2.mono g bl,h3⟩
  ·rw[if_neg hb] at hk'
   have hne:∀B2,γ.own B2=some (.ZQ b')->B2≠B:=(by grind)
   rcases h.b b' k' hk' with⟨v1,v2⟩|hm|⟨hM2,B2,o2,cs2,e2,h1,h2,h3,h4,h5,h6,h7,h8⟩
   ·exact .inl ⟨v1,v2⟩
   ·exact .inr (.inl (hm.same rfl (by grind [World.putObj_heap_other]) λc v hr=>hr.mono g bl))
   refine .inr (.inr ⟨hM2,B2,o2,cs2,e2,h1,h2,h3.of_eq (World.putObj_heap_other (hne B2 h2)),h4,h5,λi c hc=>?_,h7,h8⟩)
   obtain⟨v,a1,a2,a3,a4⟩:=h6 i c hc
   exact⟨v,a1,a2.mono g bl,a3,a4.grow g⟩
 ·simp only[St.Qu] at hk' ⊢
  by_cases hb:b'=b
  ·subst hb;simp
  ·rw[if_neg hb] at hk';rw[if_neg hb];exact h.u b' k' hk'
theorem Ps{z:Nat}{es:Array MapEntry}(h:NG z es){e:MapEntry}(he:e∈es):(G3 z e).length=mwd z:=by
 obtain⟨h1,_,h3,_⟩:=h e he
 simp[G3,h1,h3,mwd]
theorem HD{z:Nat}{es:Array MapEntry}(h:NG z es)(i j:Nat)(hj:j < mwd z):(es.toList.flatMap (G3 z))[i * mwd z+j]?=(es[i]?).bind λe=>(G3 z e)[j]?:=by
 rw[List.flatMap_def]
 have gen:∀(rows:List (List Value)),(∀r,r∈rows->r.length=mwd z)->∀i,rows.flatten[i * mwd z+j]?=(rows[i]?).bind (·[j]?):=by
  intro rows
  induction rows with
  | nil=>grind
  | cons r rows ih=>
   intro hr i
   have hl:=hr r (by simp)
   cases i with
   | zero=>grind
   | succ i=>
    grind
 rw[gen _ (λr hr=>by obtain⟨e,he,rfl⟩:=zG.1 hr;grind [Ps])]
 grind
theorem HV.row{γ:Gh}{w:World}{bs:zg}{u:zh}{z:Nat}{es:Array MapEntry}{rows:List (List V)}(hlen:es.size=rows.length)(hz:∀r,r∈rows->r.length=mwd z)(hes:NG z es)
  (hc:∀(i:Nat) (c:V),rows.flatten[i]?=some c->∃v,(es.toList.flatMap (G3 z))[i]?=some v/\Qj γ w bs u c v/\v.oneCell'=true) {i:Nat} {r:List V} (hr:rows[i]?=some r) :
  ∃e,es[i]?=some e/\Qj γ w bs u (X9 (yR z) (r.take (Dt z))) e.key/\Qj γ w bs u (X9 (Fc z) (r.drop (Dt z))) e.val:=by
 have hi:i < es.size:=by grind
 have he:es[i]?=some es[i]:=(by grind)
 have hrl:=hz r (zP hr)
 obtain⟨k1,k2,k3,k4⟩:=hes es[i] (Array.getElem_mem hi)
 have cell:∀(j:Nat) (c:V),r[j]?=some c->∃v,(G3 z es[i])[j]?=some v/\Qj γ w bs u c v:=λj c hj=>by
  have hjl:j < mwd z:=by grind
  obtain⟨v,v1,v2,_⟩:=hc (i * mwd z+j) c (by grind [U7])
  grind [HD]
 have pack:∀(a:Bool) (l:List V) (v:Value),Gg a (D6 a v)=v->(D6 a v).length=l.length->(∀(j:Nat) (c:V),l[j]?=some c->∃x,(D6 a v)[j]?=some x/\Qj γ w bs u c x)->Qj γ w bs u (X9 a l) v:=λa l v hp hl hx=>by
  cases a with
  | true=>
   have hv:v=.agg (D6 true v).toArray:=hp.symm
   rw[hv]
   refine .agg l _ hl λj c x hj hxj=>?_
   grind
  | false=>
   cases l with
   | nil=>simp[D6] at hl
   | cons c l=>
    obtain⟨y,y1,y2⟩:=hx 0 c rfl
    simp only[D6,wR,zx] at y1
    subst y1
    exact y2
 refine⟨es[i],he,pack _ _ _ k2 (by grind [List.length_take,mwd]) (λj c hj=>?_),pack _ _ _ k4 (by grind [List.length_drop,mwd]) (λj c hj=>?_)⟩
 ·grind [List.getElem?_append_left,G3]
 grind [List.getElem?_append_right,Nat.add_sub_cancel_left,G3]
def Ak{α β:Type}(l:List α)(p:α->Bool)(f:α->β)(z:β):β:=match l.findIdx? p with
 | some j=>match l[j]? with
  | some x=>f x
  | none=>z
 | none=>z
def UB(P:Program)(t:TypeId):Option V:=match P.info? t with
 | some i=>match i.zero with
  | some (.agg a)=>(a.toList.mapM WX).map .agg
  | some v=>WX v
  | none=>none
 | none=>none
theorem Ly{P:Program}{γ:Gh}{w:World}{bs:zg}{u:zh}{t:TypeId}{c:V}(h:UB P t=some c):∃v,(zeroValue t).run P w=.ok v w/\Qj γ w bs u c v:=by
 unfold UB at h
 split at h
 ·rename_i i hi
  split at h
  ·rename_i a hz
   obtain⟨l,h1,rfl⟩:=zC.1 h
   have:=Kt (γ:=γ) (w:=w) (bs:=bs) (u:=u) h1
   refine⟨.agg a,by simp[zeroValue,typeInfo,hi,hz],?_⟩
   have e:(.agg a:Value)=.agg a.toList.toArray:=by simp
   rw[e]
   exact .agg l _ (by have:=this.1;grind) λj c v hc hv=>this.2 j c v hc (by simpa using hv)
  ·rename_i v _ hz
   exact⟨v,by simp[zeroValue,typeInfo,hi,hz],.data (Ei h)⟩
  ·simp at h
 ·simp at h
section
variable {P:Program} {G:ze}
def Qh.makeMap(t:TypeId)(d z:Nat)(hz:Y8<=z):Qh P G Unit where
 op:=.makeMap t none
 dst:=some d
 ZY:=[]
 Zb:=[]
 o:=some ()
 ws:=λ_=>[.b d (some ⟨z,true,[]⟩),.t d (.mp d)]
 dt:=[]
 JN:=(by grind)
 ok:=λ_ _ x st hop hdst _ _ hd=>K9 λγ a w hs=>by
  obtain⟨h1,h2⟩:=hd d rfl
  have key:=hs.bO hz h2
  refine⟨.map (some w.heap.size),w.alloc (.map #[] 0),γ.add d w.heap.size,by simp[execOp,hop,Instr.makeMap],key.2.1,key.2.2.JQ,?_⟩
  have:=key.1.put (a:=a) (dst:=some d) (c:=.mp d) (v:=.map (some w.heap.size)) (by simpa[H6,St.Qu] using h1) (.mp d w.heap.size ⟨z,true,[]⟩ (by simp[St.Qu]) (by simp[Gh.add]) hz)
  rw[hdst]
  exact this
theorem Xa{γ:Gh}{w:World}{bs:zg}{u:zh}{a:Bool}{l:List V}{v:Value}(h:Qj γ w bs u (X9 a l) v)(h1:a=false->l.length=1) :
  (D6 a v).length=l.length/\Gg a (D6 a v)=v/\∀(j:Nat) (c:V),l[j]?=some c->∃x,(D6 a v)[j]?=some x/\Qj γ w bs u c x:=by
 cases a with
 | true=>
  obtain⟨vs,rfl,e1,e2⟩:=(h:Qj γ w bs u (.agg l) v).QX
  refine⟨by simpa[D6] using e1,by simp[Gg,D6],λj c hj=>?_⟩
  have hlt:j < vs.length:=by grind
  have hx:vs[j]?=some vs[j]:=(by grind)
  grind [D6]
 | false=>
  have:=h1 rfl
  match l,this,h with
  | [c],_,h=>
   refine⟨rfl,rfl,λj c' hj=>?_⟩
   cases j with
   | zero=>simp at hj;subst hj;exact⟨v,rfl,h⟩
   | succ j=>simp at hj
theorem XY{z:Nat}{es:Array MapEntry}{rows:List (List V)}{R:V->Value->Prop}(hes:NG z es)(hlen:es.size=rows.length)(hz:∀r,r∈rows->r.length=mwd z) :
  (∀(i:Nat) (c:V),rows.flatten[i]?=some c->∃v,(es.toList.flatMap (G3 z))[i]?=some v/\R c v)↔
   ∀(q:Nat) (r:List V) (e:MapEntry),rows[q]?=some r->es[q]?=some e->∀(j:Nat) (c:V),r[j]?=some c->∃v,(G3 z e)[j]?=some v/\R c v:=by
 constructor
 ·intro h q r e hr he j c hj
  have hjl:j < mwd z:=by grind
  obtain⟨v,v1,v2⟩:=h (q * mwd z+j) c (by grind [U7])
  grind [HD]
 ·intro h i c hc
  have hpos:0 < mwd z:=by
   grind [Nat.eq_zero_or_pos,List.flatten_eq_nil_iff,List.length_eq_zero_iff,mwd,trans]
  have e:i=(i / mwd z) * mwd z+i % mwd z:=by grind [Nat.mul_comm,Nat.div_add_mod,mwd]
  have hm:=Nat.mod_lt i hpos
  rw[e,U7 rows hz _ _ hm] at hc
  obtain⟨r,hr,hc⟩:=zU.1 hc
  have hq:i / mwd z < es.size:=by grind
  have he:es[i / mwd z]?=some es[i / mwd z]:=(by grind)
  grind [HD]
end
end Go.EV
