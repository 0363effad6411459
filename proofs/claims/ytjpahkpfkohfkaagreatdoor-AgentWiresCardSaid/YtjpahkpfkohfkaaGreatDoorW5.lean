/- Guided execution: the executor is right: if what is found is what the guide says, the function's body comes to what the guide is worth; no conditions ..; no conditions. -/
import Derived.Test.YtjpahkpfkohfkaaGreatDoorW4
import Derived.Test.YtjpahkpfkohfkaaGreatDoorW2
import Derived.RangeFuncRecord
import Derived.RangeFuncNested
import Derived.KernelRfl
set_option linter.unusedVariables false
set_option linter.unusedSimpArgs false
namespace Go.EV
open Go
section
variable {P:Program} {G:zd}
def Rel(_P:Program)(G:zd)(Q:Exit->St->Prop)(e:Exit)(st:St):Prop:=
 ∀(fx:Fx) (γ:Gh) (a:Act) (w:World),Sim G γ st a.tmps w->a.defers=fx.ds->L6 G fx γ st w Q e a w
theorem Rel.of{Q:Exit->St->Prop}{e:Exit}{st:St}(h:Q e st):Rel P G Q e st:=λ_ γ _ w hs hd=>⟨st,γ,hs,⟨.refl γ w,.refl hs.u⟩,.of hd,h⟩
theorem Rel.mono{Q Q':Exit->St->Prop}{e e':Exit}{st:St}(h:Rel P G Q e st)(hq:∀s,Q e s->Q' e' s):Rel P G Q' e' st:=λfx γ a w hs hd=>by
 obtain⟨st',γ',h1,h2,h3,h4⟩:=h fx γ a w hs hd
 exact⟨st',γ',h1,h2,h3,hq _ h4⟩
theorem Rel.forget{Q:Exit->St->Prop}{e:Exit}{st st':St}(f:F7 st st')(h:Rel P G Q e st'):Rel P G Q e st:=λfx γ a w hs hd=>
 (h fx γ a w (f.sim hs) hd).grow ⟨.refl γ w,f.pin hs⟩
theorem Rel.ghost{Q:Exit->St->Prop}{e:Exit}{st st':St}(g:Gst G st st')(h:Rel P G Q e st'):Rel P G Q e st:=λfx γ a w hs hd=>by
 obtain⟨γ',h1,h2,h3⟩:=g γ a.tmps w hs
 exact(h fx γ' a w h1 hd).grow ⟨h2,h3⟩
theorem TV.rel{c:Code}{st:St}{Q Q':Exit->St->Prop}(h:TV P G c st Q')(hq:∀e s,Q' e s->Rel P G Q e s):TV P G c st Q:=λfx γ a w hs hd=>
 wpIn_mono (h fx γ a w hs hd) λe a' w' hl=>by
  obtain⟨st',γ',h1,h2,h3,h4⟩:=hl
  exact(hq e st' h4 ⟨fx.ro,a'.defers,fx.mx⟩ γ' a' w' h1 rfl).grow2 h2 h3
theorem TV.skipR{st:St}{Q:Exit->St->Prop}(h:Rel P G Q .normal st):TV P G .skip st Q:=λfx γ a w hs hd=>wpIn_skip (h fx γ a w hs hd.1)
theorem TV.labelR{l:Nat}{st:St}{Q:Exit->St->Prop}(h:Rel P G Q .normal st):TV P G (.label l) st Q:=λfx γ a w hs hd=>wpIn_label (h fx γ a w hs hd.1)
theorem TV.exitR{id:Nat}{st:St}{Q:Exit->St->Prop}(h:Rel P G Q (.exit id) st):TV P G (.exit id) st Q:=λfx γ a w hs hd=>wpIn_exit (h fx γ a w hs hd.1)
theorem TV.retR{st:St}{Q:Exit->St->Prop}(h:Rel P G Q .ret st):TV P G .ret st Q:=λfx γ a w hs hd=>wpIn_ret (h fx γ a w hs hd.1)
def TVin(P:Program)(G:zd)(c:Code)(st:St)(Q:Exit->St->Prop):Prop:=
 ∀(fx:Fx) (γ:Gh) (a:Act) (w:World),Sim G γ st a.tmps w->FxOk fx γ a.defers w->CWin fx.ro P c (L6 G fx γ st w Q) a w
theorem TV.lpAux{c:Code}{st:St}{Q:Exit->St->Prop}(h:TV P G c st (thenV (λs=>TVin P G c s Q) Q)):∀(fx:Fx) (γ:Gh) (a:Act) (w:World),Sim G γ st a.tmps w->FxOk fx γ a.defers w->CW fx.ro P c (Exit.then (CWin fx.ro P c (L6 G fx γ st w Q)) (L6 G fx γ st w Q)) a w:=λfx γ a w hs hd=>
 wpIn_mono (h fx γ a w hs hd) λe a' w' hl=>by
  obtain⟨st',γ',h1,h2,h3,h4⟩:=hl
  cases e with
  | normal=>exact cwIn_mono (h4 ⟨fx.ro,a'.defers,fx.mx⟩ γ' a' w' h1 (hd.step h2.1)) λ_ _ _ hl=>hl.grow2 h2 h3
  | _=>exact⟨st',γ',h1,h2,h3,h4⟩
theorem TV.loopOnce{c:Code}{st:St}{Q:Exit->St->Prop}(h:TV P G c st (thenV (λs=>TVin P G c s Q) Q)):TV P G (.loop c) st Q:=λfx γ a w hs hd=>cw_loop_once (TV.lpAux h fx γ a w hs hd)
theorem TVin.once{c:Code}{st:St}{Q:Exit->St->Prop}(h:TV P G c st (thenV (λs=>TVin P G c s Q) Q)):TVin P G c st Q:=λfx γ a w hs hd=>cwIn_once (TV.lpAux h fx γ a w hs hd)
def noGoto(Q:Exit->St->Prop):Exit->St->Prop
 | .goto _,_=>False
 | e,st=>Q e st
def Qx(P:Program)(G:zd)(Q:Exit->St->Prop):List Kf->Exit->St->Prop
 | []=>Q
 | .seq y :: K=>thenV (λst=>TV P G y st (Qx P G Q K)) (Qx P G Q K)
 | .block id :: K=>T4 id (Qx P G Q K)
 | .scope :: K=>noGoto (Qx P G Q K)
 | .lp c :: K=>thenV (λst=>TVin P G c st (Qx P G Q K)) (Qx P G Q K)
def N5(P:Program){ρ:Type}(F:Fin' ρ)(r:ρ)(n:Nat):Exit->St->Prop:=
 match F with
 | .fn rs res outs=>λe s=>∃v0,A3 8 (res r) v0=res r/\Done P rs v0 (ofL (outs r)) e s
 | .mid E=>extGoal (E r) n
 | .reg _ _=>λ_ _=>False
 | .rnd S E=>match r with
  | .inl y=>λe s=>A2 e=true/\extGoal (S y) n e s
  | .inr z=>λe s=>A2 e=false/\extGoal (E z) n e s
 | .fnp rs res outs ex pouts=>match r with
  | .inl r=>λe s=>∃v0,A3 8 (res r) v0=res r/\Done P rs v0 (ofL (outs r)) e s
  | .inr z=>λe s=>e=ex z/\∀b k,ofL (pouts z) b=some k->s.b b=some k
def Post(P:Program)(G:zd)(Q:Exit->St->Prop)(cur:Code⊕Exit)(K:List Kf)(st:St):Prop:=
 match cur with
 | .inl c=>TV P G c st (Qx P G Q K)
 | .inr e=>Rel P G (Qx P G Q K) e st
def RecOk(rec:Rec P G):Prop:=
 ∀(ρ:Type) (F:Fin' ρ) (g:T P G ρ) (cur:Code⊕Exit) (K:List Kf) (d:D) (r:ρ),d.Ok->rec ρ F g cur K d=g.expect F->g.run=some r->Post P G (N5 P F r d.n) cur K d.st
section
variable {kp:List Nat} {rec:Rec P G} (hm:P.follows .mixedOrders=true) (hrec:RecOk rec) {ρ:Type} {F:Fin' ρ} {g:T P G ρ} {K:List Kf} {d:D} {r:ρ}
theorem finExt_spec{e:Exit}{x:Ext}(h:finExt e x d=extFin x.ex x):extGoal x d.n e d.st:=by
 simp only[finExt,extFin,C.fin.injEq,true_and,zp] at h
 exact⟨h.1,rfl,h.2.1,h.2.2⟩
theorem fin_spec{e:Exit}(h:fin P G F g e d=g.expect F)(hr:g.run=some r):N5 P F r d.n e d.st:=by
 cases g<;>simp only[fin] at h<;>try exact absurd h (Z6 _ _ _)
 case done r'=>
  simp only[T.run,zp] at hr
  subst hr
  cases F with
  | fn rs res outs=>
   have key:(e=.normal\/e=.ret)->C.fin ((G9 P d.st rs).map (A3 8 (res r'))) none [] ((outs r').map λp=>(p.1,d.st.b p.1))=T.expect (Fin'.fn rs res outs) (T.done (P:=P) (G:=G) r')->N5 P (Fin'.fn rs res outs) r' d.n e d.st:=by
    intro he h
    simp only[T.expect,C.fin.injEq,true_and] at h
    obtain⟨v0,h0,h1⟩:=zw.1 h.1
    refine⟨v0,h1,he,h0,λb k hk=>?_⟩
    have hmem:=O5 hk
    have:=List.map_inj_left.1 h.2 (b,k) hmem
    grind
   simp only at h
   split at h
   ·grind
   ·grind
   ·simp[T.expect] at h
  | mid E=>exact finExt_spec (by simpa[T.expect] using h)
  | fnp rs res outs ex pouts=>
   cases r' with
   | inl y=>
    have key:(e=.normal\/e=.ret)->C.fin ((G9 P d.st rs).map (A3 8 (res y))) none [] ((outs y).map λp=>(p.1,d.st.b p.1))=C.fin (some (res y)) none [] ((outs y).map λp=>(p.1,some p.2))->∃v0,A3 8 (res y) v0=res y/\Done P rs v0 (ofL (outs y)) e d.st:=by
     intro he h
     simp only[C.fin.injEq,true_and] at h
     obtain⟨v0,h0,h1⟩:=zw.1 h.1
     refine⟨v0,h1,he,h0,λb k hk=>?_⟩
     have hmem:=O5 hk
     have:=List.map_inj_left.1 h.2 (b,k) hmem
     grind
    simp only at h
    split at h
    ·exact key (.inl rfl) (by simpa[T.expect] using h)
    ·exact key (.inr rfl) (by simpa[T.expect] using h)
    ·simp[T.expect] at h
   | inr z=>
    simp only[T.expect,C.fin.injEq,true_and,zp] at h
    refine⟨h.1,λb k hk=>?_⟩
    have hmem:=O5 hk
    have:=List.map_inj_left.1 h.2 (b,k) hmem
    grind
  | reg ts E=>exact absurd h (Z6 _ _ _)
  | rnd S E=>
   cases r' with
   | inl y=>
    simp only at h
    split at h
    ·rename_i hn;exact⟨hn,finExt_spec (by simpa[T.expect] using h)⟩
    grind [Z6,absurd]
   | inr z=>
    simp only at h
    split at h
    ·exact absurd h (Z6 _ _ _)
    ·rename_i hn;exact⟨hn,finExt_spec (by simpa[T.expect] using h)⟩
theorem extD_ok{x:Ext}{n:Nat}(hok:x.ok=true):(x.D n).Ok:=by
 have hok':=hok
 simp only[Ext.ok,zC,zH] at hok'
 refine D.Ok.of_lists (λp hp=>hok'.1 p hp) (λp hp=>⟨?_,λr hr c hc=>?_⟩) (λb hb k hk=>?_)
 ·simp only[okU,Ext.D,Ext.us,wd,wc,zG]
  exact .inl (zF.2 ⟨p,hp,rfl⟩)
 ·have:=hok'.2 p hp
  simp only[blkOkB,wd,wc,zG,zH] at this
  rcases this with h1|h1
  ·exact R4 (x.dat p hp h1 r hr c hc) _
  ·exact h1 r hr c hc
 ·unfold D.st at hk
  rw[stOf_b] at hk
  split at hk
  ·rename_i p hp
   simp only[zp] at hk
   subst hk
   obtain⟨h1,h2⟩:=N2 hp
   exact x.dat p h1 (by rw[h2];exact hb)
  ·simp at hk
theorem isNormal_false{e:Exit}(h:A2 e=false):e≠.normal:=by grind [A2]
theorem isNormal_true{e:Exit}(h:A2 e=true):e=.normal:=by grind [A2]
theorem thenV_other{A:St->Prop}{Q:Exit->St->Prop}{e:Exit}(h:e≠.normal)(s:St)(hq:Q e s):thenV A Q e s:=by
 cases e<;>first|exact absurd rfl h|exact hq
include hrec in
theorem sxE_spec{e:Exit}(hd:d.Ok)(h:sxE rec F g e K d=g.expect F)(hr:g.run=some r):Rel P G (Qx P G (N5 P F r d.n) K) e d.st:=by
 unfold sxE at h
 split at h
 ·exact Rel.of (fin_spec h hr)
 ·rename_i y K
  split at h
  ·rename_i hn
   have:=hrec _ _ _ _ _ _ _ hd h hr
   rw[isNormal_true hn]
   exact Rel.of (show TV P G y d.st _ from this)
  ·rename_i hn
   have:Rel P G (Qx P G (N5 P F r d.n) K) e d.st:=hrec _ _ _ _ _ _ _ hd h hr
   exact this.mono λs hq=>thenV_other (isNormal_false hn) s hq
 ·rename_i id K
  split at h
  ·rename_i id'
   split at h
   ·rename_i he
    have:Rel P G (Qx P G (N5 P F r d.n) K) .normal d.st:=hrec _ _ _ _ _ _ _ hd h hr
    refine this.mono λs hq=>?_
    show T4 id _ (.exit id') s
    simp_all [if_pos,T4]
   ·rename_i he
    have:Rel P G (Qx P G (N5 P F r d.n) K) (.exit id') d.st:=hrec _ _ _ _ _ _ _ hd h hr
    refine this.mono λs hq=>?_
    show T4 id _ (.exit id') s
    simp_all [if_neg,T4]
  ·rename_i he
   have:Rel P G (Qx P G (N5 P F r d.n) K) e d.st:=hrec _ _ _ _ _ _ _ hd h hr
   refine this.mono λs hq=>?_
   show T4 id _ e s
   cases e<;>first|exact absurd rfl (he _)|exact hq
 ·rename_i K
  split at h
  ·exact absurd h (Z6 _ _ _)
  ·rename_i he
   have:Rel P G (Qx P G (N5 P F r d.n) K) e d.st:=hrec _ _ _ _ _ _ _ hd h hr
   refine this.mono λs hq=>?_
   show noGoto _ e s
   cases e<;>first|exact absurd rfl (he _)|exact hq
 ·rename_i c K
  split at h
  ·rename_i hn
   have:=hrec _ _ _ _ _ _ _ hd h hr
   rw[isNormal_true hn]
   exact Rel.of (show TVin P G c d.st _ from TVin.once this)
  ·rename_i hn
   have:Rel P G (Qx P G (N5 P F r d.n) K) e d.st:=hrec _ _ _ _ _ _ _ hd h hr
   exact this.mono λs hq=>thenV_other (isNormal_false hn) s hq
omit hrec hm in
theorem mem_wts{p:J6}{x:List Loc×List Wr}{y:Wr}{i:Nat}(hx:x∈p)(hy:y∈x.2)(e:y.loc=.t i):i∈p.wts:=by
 refine wI.2 ⟨x,hx,List.mem_filterMap.2 ⟨y,hy,?_⟩⟩
 cases y with
 | t j c=>grind [Loc.t.injEq,Wr.loc]
 | b j k=>simp[Wr.loc] at e
theorem mem_wbs{p:J6}{x:List Loc×List Wr}{y:Wr}{i:Nat}(hx:x∈p)(hy:y∈x.2)(e:y.loc=.b i):i∈p.wbs:=by
 refine wI.2 ⟨x,hx,List.mem_filterMap.2 ⟨y,hy,?_⟩⟩
 cases y with
 | b j k=>grind [Loc.b.injEq,Wr.loc]
 | t j c=>simp[Wr.loc] at e
theorem find_filter_key{α:Type}(l:List (Nat×α))(f:zf)(i:Nat):(l.filter λx=>f x.1).find? (λp=>p.1==i)=if f i then l.find? (λp=>p.1==i) else none:=by
 grind
theorem dropD_forget{d:D}{p:J6}{s:St}(hd:d.Ok)(hn:s.n=d.n)(h:∀l,(∀x,x∈p->∀y,y∈x.2->y.loc≠l)->O0 s d.st l):F7 s (dropD d p).st:=by
 have mu:∀b,okU d.us b=true->(dropD d p).st.u b=true:=λb hb=>by
  show ((p.wbs++d.us).contains b || uTop b)=true
  simp only[okU,wd,wc,zG,zU] at hb ⊢
  grind
 have mono:∀c,okV (okU d.us) c=true->okV (dropD d p).st.u c=true:=λc hc=>O4 mu c hc
 refine⟨hn.symm,λi=>?_,λb=>?_,(by grind [uPin_le,D.st,X0,uTop])⟩
 ·have e0:(dropD d p).st.t i=(match (d.ts.filter λx=>!p.wts.contains x.1).find? (λp=>p.1==i) with|some p=>p.2|none=>V.undef):=rfl
  rw[find_filter_key d.ts (λi=>!p.wts.contains i)] at e0
  by_cases hc:p.wts.contains i=true
  ·grind
  ·have hc':p.wts.contains i=false:=by simpa using hc
   rw[hc'] at e0
   have e:s.t i=d.st.t i:=h (.t i) λx hx y hy e=>(by grind [mem_wts])
   refine .inr ⟨by rw[e0,e];rfl,by rw[e];exact mono _ (hd.tmp i)⟩
 ·have e0:(dropD d p).st.b b=(match (d.bs.filter λx=>!p.wbs.contains x.1).find? (λp=>p.1==b) with|some p=>some p.2|none=>none):=rfl
  rw[find_filter_key d.bs (λi=>!p.wbs.contains i)] at e0
  by_cases hc:p.wbs.contains b=true
  ·grind
  ·have hc':p.wbs.contains b=false:=by simpa using hc
   rw[hc'] at e0
   have e:s.b b=d.st.b b:=(h (.b b) λx hx y hy e=>(by grind [mem_wbs])).1
   refine .inr ⟨by rw[e0,e];rfl,λk hk=>?_⟩
   rw[e] at hk
   obtain⟨h1,h2⟩:=hd.blk hk
   grind
theorem dropD_ok{d:D}{p:J6}(hd:d.Ok):(dropD d p).Ok:=by
 have f:=dropD_forget (p:=p) hd (s:=d.st) rfl λl _=>O0.refl _ l
 refine D.Ok.of_forget f λb hb k hk r hr c hc=>?_
 rcases f.b b with h|⟨h,_⟩
 ·grind
 ·rw[h] at hk;exact hd.sy b hb k hk r hr c hc
include hrec hm in
theorem sxRg_spec{id:Nat}{ops:Array Oper}{draw:Bool}(hd:d.Ok)(h:sxRg kp rec F id ops draw g K d=g.expect F)(hr:g.run=some r):TV P G (.region id ops draw) d.st (Qx P G (N5 P F r d.n) K):=by
 rcases region_sound h hr hd.sy with⟨g',s,p,sy',x1,x2,x3,x4,x5,x6⟩|⟨v,g',sy',p,R,W,x1,x2,x3,x4,x5,x6⟩
 ·split at x1
  ·rename_i hdr
   obtain⟨d',y1,y2,y3,y4⟩:=regEnd_spec x1 (λj=>Z6 F g' j) hd x5 x3
   have hq:Rel P G (Qx P G (N5 P F r d'.n) K) .normal d'.st:=hrec _ _ _ _ _ _ _ y2 y1 x2
   rw[y4] at hq
   refine TV.rel (Q':=λe s'=>e=.normal/\s'=s) (TV.plan hm hdr x5 x6 ⟨rfl,rfl⟩) λe s' he=>?_
   obtain⟨rfl,rfl⟩:=he
   exact hq.forget y3
  grind [Z6,absurd]
 ·cases draw with
  | false=>
   obtain⟨d',y1,y2,y3,y4⟩:=regEnd_spec x1 (λj=>Z6 F g' j) hd (along_push p (R,W) d.st).symm x3
   have hq:Rel P G (Qx P G (N5 P F r d'.n) K) (.panic (D5 v)) d'.st:=hrec _ _ _ _ _ _ _ y2 y1 x2
   rw[y4] at hq
   refine TV.rel (Q':=λe s''=>e=.panic (D5 v)/\s''=(W9 p d.st p.length).app W) (TV.planP x4 x5 (x6 _ rfl λl _=>O0.refl _ l) ⟨rfl,rfl⟩) λe s'' he=>?_
   obtain⟨rfl,rfl⟩:=he
   exact hq.forget y3
  | true=>
   simp only at x1
   split at x1
   rotate_left
   ·exact absurd x1 (Z6 _ _ _)
   rename_i hc
   simp only[zC,drawOk] at hc
   have hlen:(p++[(R,W)]).length - 1=p.length:=by simp
   rw[hlen] at hc
   have far:∀(D:zf) (l:Loc),(∀x,x∈p++[(R,W)]->∀y,y∈x.2->y.loc≠l)->O0 (((p++[(R,W)]).st D d.st ops.size).app W) d.st l:=λD l h=>by
    refine(I8 W _ (h (R,W) (by simp))).trans ?_
    have key:∀n,O0 ((p++[(R,W)]).st D d.st n) d.st l:=λn=>by
     induction n with
     | zero=>exact O0.refl _ _
     | succ n ih=>
      simp only[J6.st]
      split
      ·refine(I8 _ _ λy hy=>?_).trans ih
       grind [List.mem_of_getElem?,J6.ws]
      ·exact ih
    exact key _
   have fg:∀D:Nat->Bool,F7 (((p++[(R,W)]).st D d.st ops.size).app W) (dropD d (p++[(R,W)])).st:=λD=>dropD_forget hd (by rw[app_n,J6.st_n];rfl) λl h=>far D l h
   have hq:Rel P G (Qx P G (N5 P F r (dropD d (p++[(R,W)])).n) K) (.panic (D5 v)) (dropD d (p++[(R,W)])).st:=hrec _ _ _ _ _ _ _ (dropD_ok hd) x1 x2
   have e1:∀i,i < p.length->(p++[(R,W)]).rs i=p.rs i/\(p++[(R,W)]).ws i=p.ws i:=λi hi=>by
    unfold J6.rs J6.ws
    rw[wP,wP,wy hi];exact⟨rfl,rfl⟩
   have e2:∀i,i<=p.length->(p++[(R,W)]).st (λj=>decide (j < i)) d.st ops.size=W9 p d.st i:=λi hi=>by
    rw[planSt_along,show min i ops.size=i by omega,P7 _ _ _ _ hi]
   refine TV.rel (Q':=λe s''=>e=.panic (D5 v)/\∃D:Nat->Bool,s''=((p++[(R,W)]).st D d.st ops.size).app W) (TV.drawP (ip:=p.length) (ex:=.panic (D5 v)) (W:=W) hm hc.1.1 hc.1.2 (λi _ hi=>?_) (λh=>by omega) λ_=>⟨?_,λi h1 h2=>?_,λD=>⟨rfl,D,rfl⟩⟩) λe s'' he=>?_
   ·grind
   ·simp_all [zD,wP,List.getElem?_concat_length,J6.rs]
   ·have:=zH.1 hc.2 i (by simpa using h2)
    grind
   ·obtain⟨rfl,D,rfl⟩:=he
    exact hq.forget (fg D)
theorem regFin_spec{ops:Array Oper}{draw:Bool}{ts:List Nat}{ε:Type}{E:ε->List V}{first:T P G ε}{e:ε}{s:St}{p:J6}(h:regFin P G ops draw ts d first s p=first.expect (.reg ts E))(hr:first.run=some e) :
  ts.map s.t=E e/\(!draw || drawOk ops p)=true/\(∀b,b∈p.wbs->∀x,x∈d.bs->x.1≠b)/\∀t,t∈p.wts->t∈ops.toList.filterMap (·.dst):=by
 unfold regFin at h
 split at h
 ·rename_i r'
  simp only[T.run,zp] at hr
  subst hr
  split at h
  ·rename_i hc
   simp only[T.expect,C.fins.injEq] at h
   grind
  grind [Z6,absurd]
 ·simp[T.run] at hr
 grind [Z6,absurd]
theorem zip_find{ts:List Nat}{vs:List V}{s:St}(h:ts.map s.t=vs):∀p,p∈ts.zip vs->s.t p.1=p.2:=by
 subst h
 intro p hp
 induction ts with
 | nil=>simp at hp
 | cons t ts ih=>
  simp only[zW,List.zip_cons_cons,zT] at hp
  grind
include hrec hm in
theorem sxR_spec{id:Nat}{ops:Array Oper}{draw:Bool}(hd:d.Ok)(h:sxR kp rec F id ops draw g K d=g.expect F)(hr:g.run=some r):TV P G (.region id ops draw) d.st (Qx P G (N5 P F r d.n) K):=by
 unfold sxR at h
 split at h
 ·rename_i ε id' ts first E k
  split at h
  ·simp only[T.expect,C.bind.injEq,heq_eq_eq,true_and] at h
   obtain⟨h1,h2⟩:=h
   simp only[T.run] at hr
   split at hr
   ·rename_i e he
    have h3:=congrFun h2 e
    split at h3
    ·rename_i hok
     simp only[zC,zH,beq_iff_eq] at hok
     rcases region_sound h1 he hd.sy with⟨g',s,p,sy',x1,x2,x3,x4,x5,x6⟩|⟨_,_,_,_,_,_,x1,_⟩
     rotate_left
     ·exact absurd x1 (Z6 _ _ _)
     obtain⟨y1,y2,y3,y4⟩:=regFin_spec x1 x2
     have tmp:∀i,¬i∈ops.toList.filterMap (·.dst)->s.t i=d.st.t i:=(by grind [along_t_other])
     have fg:F7 s (cndD ops ts d (E e)).st:=by
      refine⟨?_,λi=>?_,λb=>?_,λb hb=>okU_top (uPin_le hb)⟩
      ·rw[x5,along_n];rfl
      ·have e0:(cndD ops ts d (E e)).st.t i=(match (ts.zip (E e)++d.ts.filter λx=>!(ops.toList.filterMap (·.dst)).contains x.1&&!ts.contains x.1).find? (λp=>p.1==i) with|some p=>p.2|none=>.undef):=rfl
       rw[e0,List.find?_append]
       cases hf:(ts.zip (E e)).find? (λp=>p.1==i) with
       | some x=>
        obtain⟨z1,z2⟩:=N2 hf
        have z3:=zip_find y1 x z1
        refine .inr ⟨by grind,?_⟩
        rw[<-z2,z3]
        exact hok.1 x.2 (List.of_mem_zip z1).2
       | none=>
        simp only[Option.none_or]
        cases hw:(!(ops.toList.filterMap (·.dst)).contains i&&!ts.contains i) with
        | false=>grind
        | true=>
         rw[F5 (q:=λj=>!(ops.toList.filterMap (·.dst)).contains j&&!ts.contains j) hw]
         simp only[zC,wi,wc,decide_eq_false_iff_not] at hw
         have e1:=tmp i hw.1
         exact .inr ⟨by rw[e1];rfl,by rw[e1];exact hd.tmp i⟩
      ·have e0:(cndD ops ts d (E e)).st.b b=d.st.b b:=rfl
       rw[e0]
       by_cases hw:b∈p.wbs
       ·grind [stOf_b,List.find?_eq_none,D.st]
       ·have e1:s.b b=d.st.b b:=by grind [along_b_other]
        refine .inr ⟨by rw[e1],λk hk=>?_⟩
        rw[e1] at hk
        exact hd.blk hk
     have ok':(cndD ops ts d (E e)).Ok:=D.Ok.of_forget fg hd.sy
     have hq:Rel P G (Qx P G (N5 P F r d.n) K) .normal (cndD ops ts d (E e)).st:=hrec _ _ _ _ _ (cndD ops ts d (E e)) _ ok' h3 hr
     refine TV.rel (Q':=λe s'=>e=.normal/\s'=s) (TV.plan hm y2 x5 x6 ⟨rfl,rfl⟩) λe s' he=>?_
     obtain⟨rfl,rfl⟩:=he
     exact hq.forget fg
    grind [Z6,absurd]
   ·simp at hr
  grind [sxRg_spec]
 grind [sxRg_spec]
end
end
structure Y5(w w1:World):Prop where
 size:w.heap.size<=w1.heap.size
 same:∀(B:Nat) (cs:Array Value) (e:TypeId) (fz:Nat×Nat),w.heap[B]?=some (.cells cs e fz)->w1.heap[B]?=some (.cells cs e fz)
 maps:∀(B:Nat) (es:Array MapEntry) (k:Nat),w.heap[B]?=some (.map es k)->w1.heap[B]?=some (.map es k)
theorem Y5.trans{a b c:World}(h:Y5 a b)(k:Y5 b c):Y5 a c:=⟨Nat.le_trans h.size k.size,λB cs e fz hb=>k.same B cs e fz (h.same B cs e fz hb),λB es c hb=>k.maps B es c (h.maps B es c hb)⟩
theorem Y5.row{w w1:World}(h:Y5 w w1){B:Nat}{cs:Array Value}{e:TypeId}(hr:E7 w B cs e):E7 w1 B cs e:=by
 obtain⟨fz,h1,h2⟩:=hr
 exact⟨fz,h.same _ _ _ _ h1,h2⟩
theorem cellAt_block{w:World}{B o:Nat}{v:Value}(h:cellAt w B o=some v):∃cs e fz,w.heap[B]?=some (.cells cs e fz):=by
 grind [cellAt,World.cell?]
theorem Y5.cell{w w1:World}(h:Y5 w w1){B o:Nat}{v:Value}(hc:cellAt w B o=some v):cellAt w1 B o=some v:=by
 obtain⟨cs,e,fz,hb⟩:=cellAt_block hc
 have:=h.same B cs e fz hb
 grind [cellAt,World.cell?]
theorem Y5.room{w w1:World}(h:Y5 w w1){B n:Nat}(hr:RoomAt w B n):RoomAt w1 B n:=by
 obtain⟨cs,e,fz,h1,h2⟩:=hr
 exact⟨cs,e,fz,h.same B cs e fz h1,h2⟩
theorem Y5.rep{w w1:World}(h:Y5 w w1){γ:Gh}{bs:ze}{u:zf}{c:V}{v:Value}(hr:Rep γ w bs u c v):Rep γ w1 bs u c v:=by
 induction hr with
 | data h1=>exact .data (h1.mono λB o v h1 h2=>⟨h1,h.cell h2⟩)
 | undef v=>exact .undef v
 | ref b off len B o cap k h1 h2 h3 h4 h5 h6 h7=>exact .ref b off len B o cap k h1 h2 h3 h4 (h.room h5) h6 h7
 | refE b off B k h1 h6 h2=>exact .refE b off B k h1 h6 h2
 | refN b off k h1 h6 h2=>exact .refN b off k h1 h6 h2
 | deadRef b off len v h1 h2 h3=>exact .deadRef b off len v h1 h2 h3
 | ptr b i off B o k h1 h2 h3=>exact .ptr b i off B o k h1 h2 h3
 | mp b B k h1 h2 h3=>exact .mp b B k h1 h2 h3
 | deadMp b v h1 h2 h3=>exact .deadMp b v h1 h2 h3
 | deadPtr b i off v h1 h2 h3=>exact .deadPtr b i off v h1 h2 h3
 | fn f first captured fs cs h1 h2 _ _ ih1 ih2=>exact .fn f first captured fs cs h1 h2 ih1 ih2
 | agg cells vs h1 _ ih=>exact .agg cells vs h1 ih
 | tup cells vs h1 _ ih=>exact .tup cells vs h1 ih
theorem Y5.right{w w1:World}(h:Y5 w w1){γ:Gh}{t:K0}{c:V}{v:Value}(hr:D8 γ w t c v):D8 γ w1 t c v:=by
 unfold D8 at hr ⊢
 split at hr
 ·rcases hr with hr|⟨h1,cs,e,h2,h3⟩
  ·exact .inl hr
  ·exact .inr ⟨h1,cs,e,h.row h2,h3⟩
 ·trivial
theorem Y5.blkOk{w w1:World}(h:Y5 w w1){γ:Gh}{bs:ze}{u:zf}{b:Nat}{k:Blk}(hb:L4 γ w bs u b k):L4 γ w1 bs u b k:=by
 rcases hb with h0|hm|⟨hM,B,o,cs,e,a1,a2,a3,a4,a5,a6,a7,a8⟩
 ·exact .inl h0
 ·obtain⟨hM,B,es,clock,h1,h2,h3,h4,h5,h6,h7⟩:=hm
  refine .inr (.inl ⟨hM,B,es,clock,h1,h2,h.maps _ _ _ h3,h4,h5,h6,λi c hc=>?_⟩)
  obtain⟨v,a1,a2,a3⟩:=h7 i c hc
  exact⟨v,a1,h.rep a2,a3⟩
 ·refine .inr (.inr ⟨hM,B,o,cs,e,a1,a2,h.row a3,a4,a5,λi c hc=>?_,a7,a8⟩)
  obtain⟨x,b1,b2,b3,b4⟩:=a6 i c hc
  exact⟨x,b1,h.rep b2,b3,h.right b4⟩
theorem Y5.sim{w w1:World}(h:Y5 w w1){G:zd}{γ:Gh}{st:St}{tmps:Array Value}(hs:Sim G γ st tmps w):Sim G γ st tmps w1:=
 ⟨hs.n,λi=>h.rep (hs.t i),λb k hk=>h.blkOk (hs.b b k hk),hs.u,λg cells hg=>(hs.g g cells hg).mono λ_ _ _ h1 h2=>⟨h1,h.cell h2⟩,λB x hx=>wJ (hs.o B x hx) h.size⟩
theorem Grow.same{γ γ':Gh}{w w1 w2:World}(g:Grow γ w γ' w1)(h:Y5 w1 w2)(hl:∀B,B < w.heap.size->w2.heap[B]?=w1.heap[B]?)(h1:w2.os=w1.os)(h2:w2.tape=w1.tape)(h3:w2.output=w1.output):Grow γ w γ' w2 where
 os:=h1.trans g.os
 tape:=h2.trans g.tape
 output:=h3.trans g.output
 size:=Nat.le_trans g.size h.size
 imm:=λB o v hB hc=>h.cell (g.imm B o v hB hc)
 lim:=g.lim
 free:=λB hB ho=>by
  obtain⟨a1,a2,a3⟩:=g.free B hB ho
  grind
 room:=λB cs e fz hc=>by
  obtain⟨cs',fz',a1,a2⟩:=g.room B cs e fz hc
  grind
def dataObj:Obj->Bool
 | .cells _ _ _=>true
 | .map _ _=>true
 | _=>false
theorem Y5.put{w:World}{l:Nat}{o o':Obj}(h:w.heap[l]?=some o)(hn:dataObj o=false):Y5 w (w.putObj l o'):=
 ⟨by simp,λB cs e fz hb=>by
  have hne:B≠l:=λe'=>by subst e';rw[h] at hb;simp only[zp] at hb;rw[hb] at hn;cases hn
  grind [World.putObj_heap_other],λB es c hb=>by
  have hne:B≠l:=λe'=>by subst e';rw[h] at hb;simp only[zp] at hb;rw[hb] at hn;cases hn
  grind [World.putObj_heap_other]⟩
theorem Grow.put{γ γ':Gh}{w w1:World}(g:Grow γ w γ' w1){l:Nat}{o o':Obj}(h:w1.heap[l]?=some o)(hn:dataObj o=false)(hl:w.heap.size<=l):Grow γ w γ' (w1.putObj l o'):=
 g.same (.put h hn) (by grind [World.putObj_heap_other]) rfl rfl rfl
theorem C4{P:Program}{fn:Func}{tmps:Array Value}{R:Ending->World->Prop}{rest:List Deferred}{u:FrameMode}(hu:u≠.run)(I:World->Prop)(hI:∀w,I w->LeavesInM (RF none) 0 P fn tmps R rest u w) :
  ∀(Ds:List Nat) (w:World),I w->Ds.Nodup->(∀D,D∈Ds->w.heap[D]?=some (.deferred (some [])))->(∀D w,D∈Ds->I w->w.heap[D]?=some (.deferred (some []))->I (w.putObj D (.deferred none)))->
   LeavesInM (RF none) 0 P fn tmps R (Ds.map markD++rest) u w
 | [],w,h,_,_,_=>hI w h
 | D :: Ds,w,h,hn,hd,hp=>by
  refine⟨hu,.inl ⟨D,_,rfl,run_takeDeferred (hd D (by simp)),?_⟩⟩
  have hn':=List.nodup_cons.1 hn
  refine C4 hu I hI Ds _ (by grind) hn'.2 (λE hE=>?_) (by grind)
  grind [World.putObj_heap_other]
theorem V9{P:Program}{fn:Func}{tmps:Array Value}{R:Ending->World->Prop}(I:World->Prop)(hI:∀w,I w->∃v,(results fn tmps).run P w=.ok v w/\R (.returned v) w) :
  ∀(Ds:List Nat) (w:World),I w->Ds.Nodup->(∀D,D∈Ds->w.heap[D]?=some (.deferred (some [])))->(∀D w,D∈Ds->I w->w.heap[D]?=some (.deferred (some []))->I (w.putObj D (.deferred none)))->
   LeavesInM (RF none) 0 P fn tmps R (Ds.map markD) .returning w
 | [],w,h,_,_,_=>hI w h
 | D :: Ds,w,h,hn,hd,hp=>by
  refine⟨by simp,.inl ⟨D,_,rfl,run_takeDeferred (hd D (by simp)),?_⟩⟩
  have hn':=List.nodup_cons.1 hn
  refine V9 I hI Ds _ (by grind) hn'.2 (λE hE=>?_) (by grind)
  grind [World.putObj_heap_other]
section
variable {P:Program} {G:zd} {kp:List Nat} {rec:Rec P G} (hm:P.follows .mixedOrders=true) (hrec:RecOk rec) {ρ:Type} {F:Fin' ρ} {g:T P G ρ} {K:List Kf} {d:D} {r:ρ}
theorem TV.scopeN{c:Code}{st:St}{Q:Exit->St->Prop}(h:TV P G c st (noGoto Q)):TV P G (.scope c) st Q:=
 (TV.scope h λl s hs=>hs.elim).mono λe s hs=>by
  cases e<;>first|exact hs.elim|exact hs
theorem loop_main{σ ε:Type}{S:σ->Ext}{body:σ->T P G (σ⊕ε)}{E:ε->Ext}{x:Code}{n:Nat}(hrec:RecOk rec)
  (hb:∀y,(match (S y).ok&&A2 (S y).ex with
     | true=>rec _ (.rnd S E) (body y) (.inl x) [] ((S y).D n)
     | false=>.stuck 69)=(body y).expect (.rnd S E))
  (e0:ε) (m:Nat) (y0:σ) (hit:S3 (λy=>(body y).run) m y0=some e0):TV P G (.loop x) ((S y0).D n).st (extGoal (E e0) n):=by
 have okS:∀y,(S y).ok=true/\rec _ (.rnd S E) (body y) (.inl x) [] ((S y).D n)=(body y).expect (.rnd S E):=λy=>by
  have:=hb y
  split at this
  ·grind
  grind [Z6,absurd]
 refine TV.loop (λm st=>∃y,st=((S y).D n).st/\S3 (λy=>(body y).run) m y=some e0) (λm st hI=>?_) (n:=m) ⟨y0,rfl,hit⟩
 obtain⟨y,rfl,hy⟩:=hI
 obtain⟨s1,s3⟩:=okS y
 cases m with
 | zero=>simp[S3] at hy
 | succ m=>
  have hy':(match (body y).run with|none=>none|some (.inl z)=>S3 (λy=>(body y).run) m z|some (.inr e)=>some e)=some e0:=hy
  cases hrun:(body y).run with
  | none=>grind
  | some z=>
   rw[hrun] at hy'
   cases z with
   | inl z=>
    simp only at hy'
    have key:TV P G x ((S y).D n).st (λe s=>A2 e=true/\extGoal (S z) n e s):=hrec _ _ _ _ _ _ _ (extD_ok s1) s3 hrun
    obtain⟨z1,_⟩:=okS z
    refine TV.rel key λe s hg=>?_
    obtain⟨g0,_,g2,g3,g4⟩:=hg
    have f:=R3 (G:=G) (s:=s) z1 g3 g4
    rw[g2] at f
    rw[isNormal_true g0]
    exact Rel.ghost f (Rel.of ⟨m,by omega,z,rfl,hy'⟩)
   | inr e=>
    simp only[zp] at hy'
    subst hy'
    have key:TV P G x ((S y).D n).st (λe' s=>A2 e'=false/\extGoal (E e) n e' s):=hrec _ _ _ _ _ _ _ (extD_ok s1) s3 hrun
    exact key.mono (by grind [thenV_other,isNormal_false])
include hrec in
theorem sxN_spec{c:Code}(hd:d.Ok)(h:sxN rec F g c K d=g.expect F)(hr:g.run=some r):TV P G c d.st (Qx P G (N5 P F r d.n) K):=by
 unfold sxN at h
 split at h
 ·rename_i o x y
  split at h
  ·rename_i a' c' a b
   split at h
   ·rename_i c hc
    simp only[T.expect,C.br.injEq] at h
    obtain⟨rfl,h1,h2⟩:=h
    simp only[T.run] at hr
    refine TV.cond hc ?_
    cases c with
    | true=>exact hrec _ _ _ _ _ _ _ hd h1 (by simpa using hr)
    | false=>exact hrec _ _ _ _ _ _ _ hd h2 (by simpa using hr)
   grind [Z6,absurd]
  ·rename_i k
   split at h
   ·rename_i c hc
    split at h
    ·refine TV.cond hc ?_
     exact hrec _ _ _ _ _ _ _ hd (by simpa[T.expect] using h) (by simpa[T.run] using hr)
    grind [Z6,absurd]
   grind [Z6,absurd]
  ·rename_i k
   split at h
   ·rename_i c hc
    split at h
    ·refine TV.cond hc ?_
     exact hrec _ _ _ _ _ _ _ hd (by simpa[T.expect] using h) (by simpa[T.run] using hr)
    grind [Z6,absurd]
   grind [Z6,absurd]
  grind [Z6,absurd]
 ·exact TV.block (hrec _ _ _ _ _ _ _ hd h hr)
 ·exact TV.scopeN (hrec _ _ _ _ _ _ _ hd h hr)
 ·rename_i x
  split at h
  ·rename_i σ S body x0
   split at h
   ·rename_i E
    split at h
    ·simp only[T.expect,C.loop.injEq,heq_eq_eq,true_and] at h
     obtain⟨h1,h2,h3⟩:=h
     simp only[T.run] at hr
     have hb:=λy=>congrFun h3 y
     have s1:(S x0).ok=true:=by
      have:=hb x0
      split at this
      ·grind
      grind [Z6,absurd]
     exact TV.ghost (R3 (s:=d.st) s1 h1 h2) (loop_main hrec hb r FUEL x0 hr)
    grind [Z6,absurd]
   grind [Z6,absurd]
  ·exact TV.loopOnce (hrec _ _ _ _ _ _ _ hd h hr)
 ·split at h
  ·rename_i ε S k
   split at h
   ·rename_i hx
    simp only[T.expect,C.sub.injEq,heq_eq_eq,true_and] at h
    obtain⟨h1,h2,h3,h4,h5⟩:=h
    simp only[T.run] at hr
    split at hr
    ·rename_i e he
     have h6:=congrFun h5 e
     split at h6
     ·rename_i hok
      have key:=S.ok e he
      rw[<-h1,<-h2] at key
      have hq:Rel P G (Qx P G (N5 P F r d.n) K) (S.E e).ex ((S.E e).D d.n).st:=hrec _ _ _ _ _ ((S.E e).D d.n) _ (extD_ok hok) h6 hr
      refine TV.ghost (R3 (s:=d.st) hx h3 h4) (TV.rel key λe' s hg=>?_)
      obtain⟨g1,g2⟩:=hg
      rw[g1]
      exact hq.ghost g2
     grind [Z6,absurd]
    ·simp at hr
   grind [Z6,absurd]
  grind [Z6,absurd]
 grind [Z6,absurd]
include hrec in
theorem bind_spec{ε:Type}{E:ε->Ext}{E':Ext}{e:ε}{first:T P G ε}{k:T P G ρ}{c:Code}(hd:d.Ok)(h1:rec _ (.mid E) first (.inl c) [] d=first.expect (.mid E))(he:first.run=some e)(hE:E e=E')
  (h3:(match E'.ok with
   | true=>rec ρ F k (.inr E'.ex) K (E'.D d.n)
   | false=>.stuck 64)=k.expect F) (hr:k.run=some r):TV P G c d.st (Qx P G (N5 P F r d.n) K):=by
 subst hE
 split at h3
 ·rename_i hok
  have key:TV P G c d.st (N5 P (.mid E) e d.n):=hrec _ _ _ _ _ _ _ hd h1 he
  have hq:Rel P G (Qx P G (N5 P F r d.n) K) (E e).ex ((E e).D d.n).st:=hrec _ _ _ _ _ ((E e).D d.n) _ (extD_ok hok) h3 hr
  refine TV.rel key λe' s hg=>?_
  obtain⟨g1,g2,g3,g4⟩:=hg
  have f:=R3 (G:=G) (s:=s) hok g3 g4
  rw[g2] at f
  rw[g1]
  exact hq.ghost f
 grind [Z6,absurd]
include hrec in
theorem sxB_spec{c:Code}(hd:d.Ok)(h:sxB rec F g c K d=g.expect F)(hr:g.run=some r):TV P G c d.st (Qx P G (N5 P F r d.n) K):=by
 unfold sxB at h
 split at h
 ·rename_i ε first E k
  simp only[T.expect,C.bind.injEq,heq_eq_eq,true_and] at h
  obtain⟨h1,h2⟩:=h
  simp only[T.run] at hr
  split at hr
  ·rename_i e he
   exact bind_spec hrec hd h1 he rfl (congrFun h2 e) hr
  ·simp at hr
 ·rename_i ε ζ first E E2 k k2
  simp only[T.expect,C.bind2.injEq,heq_eq_eq,true_and] at h
  obtain⟨h1,h2,h3⟩:=h
  simp only[T.run] at hr
  split at hr
  ·rename_i e he
   exact bind_spec hrec hd h1 he rfl (congrFun h2 e) hr
  ·rename_i e he
   exact bind_spec hrec hd h1 he rfl (congrFun h3 e) hr
  ·simp at hr
 ·rename_i ε ζ j first E E2 k k2
  have hr':(T.bind2 j first E E2 k k2).run=some r:=by grind [T.run]
  have ex':(T.bind2 j first E E2 k k2).expect F=(T.bind2 (j+1) first E E2 k k2).expect F:=by simp only[T.expect]
  rw[<-ex'] at h
  split at h
  ·exact TV.block (hrec _ _ _ _ _ _ _ hd h hr')
  ·exact TV.scopeN (hrec _ _ _ _ _ _ _ hd h hr')
  ·exact TV.loopOnce (hrec _ _ _ _ _ _ _ hd h hr')
  grind [Z6,absurd]
 ·rename_i ε j first E k
  have hr':(T.bind j first E k).run=some r:=by grind [T.run]
  have ex':(T.bind j first E k).expect F=(T.bind (j+1) first E k).expect F:=by simp only[T.expect]
  rw[<-ex'] at h
  split at h
  ·exact TV.block (hrec _ _ _ _ _ _ _ hd h hr')
  ·exact TV.scopeN (hrec _ _ _ _ _ _ _ hd h hr')
  ·exact TV.loopOnce (hrec _ _ _ _ _ _ _ hd h hr')
  grind [Z6,absurd]
 grind [sxN_spec]
include hrec in
theorem sxSub_spec{c:Code}(_:d.Ok)(h:sxSub rec F g c K d=g.expect F)(hr:g.run=some r):TV P G c d.st (Qx P G (N5 P F r d.n) K):=by
 unfold sxSub at h
 split at h
 ·rename_i ε S k
  split at h
  ·rename_i hx
   simp only[T.expect,C.sub.injEq,heq_eq_eq,true_and] at h
   obtain⟨h1,h2,h3,h4,h5⟩:=h
   simp only[T.run] at hr
   split at hr
   ·rename_i e he
    have h6:=congrFun h5 e
    split at h6
    ·rename_i hok
     have key:=S.ok e he
     rw[<-h1,<-h2] at key
     have hq:Rel P G (Qx P G (N5 P F r d.n) K) (S.E e).ex ((S.E e).D d.n).st:=hrec _ _ _ _ _ ((S.E e).D d.n) _ (extD_ok hok) h6 hr
     refine TV.ghost (R3 (s:=d.st) hx h3 h4) (TV.rel key λe' s hg=>?_)
     obtain⟨g1,g2⟩:=hg
     rw[g1]
     exact hq.ghost g2
    grind [Z6,absurd]
   ·simp at hr
  grind [Z6,absurd]
 grind [Z6,absurd]
include hrec hm in
theorem sxC_spec{c:Code}(hd:d.Ok)(h:sxC kp rec F g c K d=g.expect F)(hr:g.run=some r):TV P G c d.st (Qx P G (N5 P F r d.n) K):=by
 unfold sxC at h
 split at h
 ·exact TV.skipR (hrec _ _ _ _ _ _ _ hd h hr)
 ·exact TV.labelR (hrec _ _ _ _ _ _ _ hd h hr)
 ·exact TV.exitR (hrec _ _ _ _ _ _ _ hd h hr)
 ·exact TV.retR (hrec _ _ _ _ _ _ _ hd h hr)
 ·split at h
  ·grind [sxSub_spec]
  ·exact TV.seq (hrec _ _ _ _ _ _ _ hd h hr)
 ·grind [sxR_spec]
 grind [sxB_spec]
theorem Post.ghost{Q:Exit->St->Prop}{cur:Code⊕Exit}{st st':St}(g:Gst G st st')(h:Post P G Q cur K st'):Post P G Q cur K st:=by
 cases cur with
 | inl c=>exact TV.ghost g h
 | inr e=>exact Rel.ghost (P:=P) g h
include hrec hm in
theorem sxD_spec{cur:Code⊕Exit}(hd:d.Ok)(h:sxD kp rec F g cur K d=g.expect F)(hr:g.run=some r):Post P G (N5 P F r d.n) cur K d.st:=by
 unfold sxD at h
 split at h
 ·exact sxE_spec hrec hd h hr
 ·exact sxC_spec hm hrec hd h hr
include hrec hm in
theorem sxS_spec{cur:Code⊕Exit}(hd:d.Ok)(h:sxS kp rec F g cur K d=g.expect F)(hr:g.run=some r):Post P G (N5 P F r d.n) cur K d.st:=by
 unfold sxS at h
 split at h
 ·simp[T.run] at hr
 ·rename_i p i k
  simp only[T.expect,C.fact.injEq,heq_eq_eq,true_and] at h
  cases i with
  | isTrue hp=>exact hrec _ _ _ _ _ _ _ hd (congrFun h hp) hr
  | isFalse hp=>simp[T.run] at hr
 ·rename_i a w k
  split at h
  ·simp only[T.expect,C.gh.injEq] at h
   obtain⟨h1,h2⟩:=h
   obtain⟨d',x1,x2,x3,x4⟩:=ghX_spec (G:=G) h2 (λj=>Z6 F k j) h1 hd
   have:=hrec _ _ _ _ _ _ _ x2 x1 (by simpa[T.run] using hr)
   rw[x4] at this
   exact this.ghost x3
  grind [sxD_spec]
 grind [sxD_spec]
end
theorem sx_ok{P:Program}{G:zd}{kp:List Nat}(hm:P.follows .mixedOrders=true):∀n,RecOk (sx P G kp n)
 | 0=>λ_ F g _ _ _ _ _ h _=>absurd h (Z6 F g 99)
 | n+1=>λ_ _ _ _ _ _ _ hd h hr=>sxS_spec hm (sx_ok hm n) hd h hr
def H8(args:List V):List (Nat×V):=args.zipIdx.map λx=>(x.2,x.1)
def fnC(P:Program)(G:zd)(kp:List Nat)(fn:Func)(args:List V)(x:Ext){ρ:Type}(g:T P G ρ)(res:ρ->V)(outs:ρ->List (Nat×Blk)):Bool×C:=
 (fn.body.isSome&&(x.ok&&x.bs.all λp=>decide (1000000<=p.1)),sx P G kp 100000 ρ (.fn fn.results.toList res outs) g (.inl (fn.body.getD .skip)) [] (x.D (max fn.ntmps args.length)))
theorem argTs_find:∀(args:List V) (k i:Nat),(match ((args.zipIdx k).map λx=>(x.2,x.1)).find? (λp=>p.1==i+k) with|some p=>p.2|none=>V.undef)=args.getD i .undef
 | [],k,i=>rfl
 | v :: args,k,i=>by
  simp only[List.zipIdx_cons,zW]
  cases i with
  | zero=>simp
  | succ i=>
   rw[List.find?_cons_of_neg (by simp)]
   have:=argTs_find args (k+1) i
   grind
theorem callC_body{P:Program}{G:zd}{f:FuncId}{fn:Func}{c:Code}{n:Nat}{args:List V}{ins:ze}{res:V}{outs:ze}
  (hf:P.funcs[f]?=some fn) (hb:fn.body=some c) (hn:n=max fn.ntmps args.length)
  (h:∀(γ:Gh) (a:Act) (w:World),Sim G γ (entry n args ins) a.tmps w->a.defers=[]->CW none P c (λe a' w'=>∃v0,A3 8 res v0=res/\L6 G ⟨none,[],true⟩ γ (entry n args ins) w (Done P fn.results.toList v0 outs) e a' w') a w):CallC P G f args ins res outs:=by
 intro γ w as hg ho ha hbl
 have hsz:as.size=args.length:=ha.1
 have hs:Sim G γ (entry n args ins) (as++Array.replicate (fn.ntmps - as.size) undef) w:=by
  refine⟨by grind [Array.size_append,Array.size_replicate,entry],λi=>?_,λb k hk=>(hbl b k hk).2,λb k hk=>(hbl b k hk).1,hg,ho⟩
  show Rep γ w ins uTop (args.getD i .undef) _
  by_cases hi:i < args.length
  ·have e1:args.getD i .undef=args[i]:=by grind
   have e2:(as++Array.replicate (fn.ntmps - as.size) undef).getD i undef=as[i]'(by omega):=by
    simp_all [wH,Array.getElem?_append_left,wl]
   rw[e1,e2]
   exact ha.2 i _ _ (by grind) (by grind)
  ·have e1:args.getD i .undef=.undef:=by grind
   rw[e1];exact .undef _
 refine(callsIn_wide (n:=0)).1 (callsIn_of_wp_marks hf hb trivial (wpIn_mono (h γ ⟨as++Array.replicate (fn.ntmps - as.size) undef,[]⟩ w hs rfl) λe a' w' hl=>?_))
 obtain⟨v0,hv0,st',γ',h1,⟨h2,h2p⟩,⟨Ds,_,m1,m2,m3⟩,he,hr,hout⟩:=hl
 have ble:L7 γ' st'.b st'.u γ' outs (λ_=>true):=by
  refine⟨λ_ _=>rfl,λb _ hn=>?_,λb k hk=>⟨rfl,?_⟩⟩
  ·cases ho:outs b with
   | none=>rfl
   | some k=>grind
  ·cases ho:outs b with
   | none=>exact .inl rfl
   | some k'=>
    grind
 have fin:LeavesInM (RF none) 0 P fn a'.tmps (λe w'=>∃v γ',e=.returned v/\Grow γ w γ' w'/\Pin γ ins uTop γ' outs (λ_=>true)/\Rep γ' w' outs (λ_=>true) res v/\
   (∀b k,outs b=some k->L4 γ' w' outs (λ_=>true) b k)/\(∀B x,γ'.own B=some x->B < w'.heap.size)) a'.defers .returning w':=by
  rw[m1,wE]
  refine V9 (λw''=>Sim G γ' st' a'.tmps w''/\Grow γ w γ' w'') (λw'' hI=>?_) Ds w' ⟨h1,h2⟩ m2 (λD hD=>(m3 D hD).2.1) λD w'' hD hI hd=>
   ⟨(Y5.put hd rfl).sim hI.1,hI.2.put hd rfl (m3 D hD).1⟩
  obtain⟨i1,i2⟩:=hI
  obtain⟨v,hv,hrep⟩:=run_resultsV (P:=P) i1 hr
  refine⟨v,hv,v,γ',rfl,i2,h2p.trans ble.pin,(by have:=coeV_rep 8 res v0 v (hrep.mono (.refl _ _) ble);grind),λb k hk=>?_,i1.o⟩
  rcases i1.b b k (hout b k hk) with h0|hm|⟨hM,B,o,cs,e,a1,a2,a3,a4,a5,a6,a7,a8⟩
  ·exact .inl h0
  ·exact .inr (.inl (hm.same rfl (by grind) λc v hr=>hr.mono (.refl _ _) ble))
  refine .inr (.inr ⟨hM,B,o,cs,e,a1,a2,a3,a4,a5,λi c hc=>?_,a7,a8⟩)
  obtain⟨x,b1,b2,b3,b4⟩:=a6 i c hc
  exact⟨x,b1,b2.mono (.refl _ _) ble,b3,b4⟩
 rcases he with rfl|rfl
 ·exact fin
 ·exact fin
theorem callP_body{P:Program}{G:zd}{f:FuncId}{fn:Func}{c:Code}{n:Nat}{args:List V}{ins:ze}{v:Value}{outs:ze}
  (hf:P.funcs[f]?=some fn) (hb:fn.body=some c) (hn:n=max fn.ntmps args.length)
  (h:∀(γ:Gh) (a:Act) (w:World),Sim G γ (entry n args ins) a.tmps w->a.defers=[]->CW none P c (L6 G ⟨none,[],true⟩ γ (entry n args ins) w λe s=>e=.panic (D5 v)/\∀b k,outs b=some k->s.b b=some k) a w) :
  CallP P G f args ins v outs:=by
 intro γ w as hg ho ha hbl
 have hsz:as.size=args.length:=ha.1
 have hs:Sim G γ (entry n args ins) (as++Array.replicate (fn.ntmps - as.size) undef) w:=by
  refine⟨by grind [Array.size_append,Array.size_replicate,entry],λi=>?_,λb k hk=>(hbl b k hk).2,λb k hk=>(hbl b k hk).1,hg,ho⟩
  show Rep γ w ins uTop (args.getD i .undef) _
  by_cases hi:i < args.length
  ·have e1:args.getD i .undef=args[i]:=by grind
   have e2:(as++Array.replicate (fn.ntmps - as.size) undef).getD i undef=as[i]'(by omega):=by
    simp_all [wH,Array.getElem?_append_left,wl]
   rw[e1,e2]
   exact ha.2 i _ _ (by grind) (by grind)
  ·have e1:args.getD i .undef=.undef:=by grind
   rw[e1];exact .undef _
 refine(callsIn_wide (n:=0)).1 (callsIn_of_wp_marks hf hb trivial (wpIn_mono (h γ ⟨as++Array.replicate (fn.ntmps - as.size) undef,[]⟩ w hs rfl) λe a' w' hl=>?_))
 obtain⟨st',γ',h1,⟨h2,h2p⟩,⟨Ds,_,m1,m2,m3⟩,rfl,hout⟩:=hl
 have ble:L7 γ' st'.b st'.u γ' outs (λ_=>true):=by
  refine⟨λ_ _=>rfl,λb _ hn=>?_,λb k hk=>⟨rfl,?_⟩⟩
  ·cases ho:outs b with
   | none=>rfl
   | some k=>grind
  ·cases ho:outs b with
   | none=>exact .inl rfl
   | some k'=>
    grind
 show LeavesInM (RF none) 0 P fn a'.tmps _ a'.defers (.panicking (D5 v)) w'
 rw[m1]
 refine C4 (u:=.panicking (D5 v)) (by simp) (λw''=>Sim G γ' st' a'.tmps w''/\Grow γ w γ' w'') (λw'' hI=>?_) Ds w' ⟨h1,h2⟩ m2 (λD hD=>(m3 D hD).2.1) λD w'' hD hI hd=>
  ⟨(Y5.put hd rfl).sim hI.1,hI.2.put hd rfl (m3 D hD).1⟩
 obtain⟨i1,i2⟩:=hI
 refine⟨undef,γ',rfl,i2,h2p.trans ble.pin,.undef _,λb k hk=>?_,i1.o⟩
 rcases i1.b b k (hout b k hk) with h0|hm|⟨hM,B,o,cs,e,a1,a2,a3,a4,a5,a6,a7,a8⟩
 ·exact .inl h0
 ·exact .inr (.inl (hm.same rfl (by grind) λc v hr=>hr.mono (.refl _ _) ble))
 refine .inr (.inr ⟨hM,B,o,cs,e,a1,a2,a3,a4,a5,λi c hc=>?_,a7,a8⟩)
 obtain⟨x,b1,b2,b3,b4⟩:=a6 i c hc
 exact⟨x,b1,b2.mono (.refl _ _) ble,b3,b4⟩
theorem entry_of{n:Nat}{args:List V}{x:Ext}(hx:x.ts=H8 args)(h3:∀p,p∈x.bs->1000000<=p.1):(x.D n).st=entry n args (ofL x.bs):=by
 unfold D.st Ext.D X0 entry
 simp only[St.mk.injEq,true_and]
 refine⟨funext λi=>?_,rfl,funext λi=>?_⟩
 ·rw[hx]
  have:=argTs_find args 0 i
  exact this
 ·cases hu:uTop i with
  | true=>simp
  | false=>
   simp only[Bool.or_false]
   refine Bool.eq_false_iff.2 λhc=>?_
   simp only[Ext.us,wc,zG] at hc
   obtain⟨p,hp,rfl⟩:=zF.1 hc
   grind [uTop]
def fnCP(P:Program)(G:zd)(kp:List Nat)(fn:Func)(args:List V)(x:Ext){α β:Type}(g:T P G (α⊕β))(res:α->V)(outs:α->List (Nat×Blk))(pan:β->Value)(pouts:β->List (Nat×Blk)):Bool×C:=
 (fn.body.isSome&&(x.ok&&x.bs.all λp=>decide (1000000<=p.1)),sx P G kp 100000 (α⊕β) (.fnp fn.results.toList res outs (λz=>.panic (D5 (pan z))) pouts) g (.inl (fn.body.getD .skip)) [] (x.D (max fn.ntmps args.length)))
theorem fnp_ok{P:Program}{G:zd}{kp:List Nat}(hm:P.follows .mixedOrders=true){f:FuncId}{fn:Func}(hf:P.funcs[f]?=some fn){args:List V}{x:Ext}(hx:x.ts=H8 args){α β:Type}{g:T P G (α⊕β)}
  {res:α->V} {outs:α->List (Nat×Blk)} {pan:β->Value} {pouts:β->List (Nat×Blk)} (h:fnCP P G kp fn args x g res outs pan pouts=(true,g.expect (.fnp fn.results.toList res outs (λz=>.panic (D5 (pan z))) pouts))) :
  (∀r,g.run=some (.inl r)->CallC P G f args (ofL x.bs) (res r) (ofL (outs r)))/\∀z,g.run=some (.inr z)->CallP P G f args (ofL x.bs) (pan z) (ofL (pouts z)):=by
 simp only[fnCP,zJ,zC,zH,zG] at h
 obtain⟨⟨h1,h2,h3⟩,h4⟩:=h
 obtain⟨c,hc⟩:=Option.isSome_iff_exists.1 h1
 rw[hc] at h4
 have e:=entry_of (n:=max fn.ntmps args.length) hx h3
 have key:∀q,g.run=some q->TV P G c (entry (max fn.ntmps args.length) args (ofL x.bs)) (N5 P (.fnp fn.results.toList res outs (λz=>.panic (D5 (pan z))) pouts) q (max fn.ntmps args.length)):=λq hr=>by
  have:=sx_ok hm 100000 _ _ _ _ _ _ _ (extD_ok h2) h4 hr
  rw[<-e];exact this
 constructor
 ·intro r hr
  refine callC_body hf hc rfl λγ a w hs hd=>wpIn_mono (key _ hr ⟨none,[],true⟩ γ a w hs ⟨hd,rfl,λ_ h=>by simp at h⟩) λe a' w' hl=>?_
  obtain⟨st',γ',k1,k2,k3,v0,k4,k5⟩:=hl
  exact⟨v0,k4,st',γ',k1,k2,k3,k5⟩
 ·intro z hr
  exact callP_body hf hc rfl λγ a w hs hd=>key _ hr ⟨none,[],true⟩ γ a w hs ⟨hd,rfl,λ_ h=>by simp at h⟩
theorem fn_ok{P:Program}{G:zd}{kp:List Nat}(hm:P.follows .mixedOrders=true){f:FuncId}{fn:Func}(hf:P.funcs[f]?=some fn){args:List V}{x:Ext}(hx:x.ts=H8 args){ρ:Type}{g:T P G ρ}
  {res:ρ->V} {outs:ρ->List (Nat×Blk)} (h:fnC P G kp fn args x g res outs=(true,g.expect (.fn fn.results.toList res outs))):∀r,g.run=some r->CallC P G f args (ofL x.bs) (res r) (ofL (outs r)):=by
 intro r hr
 simp only[fnC,zJ,zC,zH,zG] at h
 obtain⟨⟨h1,h2,h3⟩,h4⟩:=h
 obtain⟨c,hc⟩:=Option.isSome_iff_exists.1 h1
 rw[hc] at h4
 have key:TV P G c (x.D (max fn.ntmps args.length)).st (N5 P (.fn fn.results.toList res outs) r _):=sx_ok hm 100000 _ _ _ _ _ _ _ (extD_ok h2) h4 hr
 have e:(x.D (max fn.ntmps args.length)).st=entry (max fn.ntmps args.length) args (ofL x.bs):=by
  unfold D.st Ext.D X0 entry
  simp only[St.mk.injEq,true_and]
  refine⟨funext λi=>?_,rfl,funext λi=>?_⟩
  ·rw[hx]
   have:=argTs_find args 0 i
   exact this
  ·cases hu:uTop i with
   | true=>simp
   | false=>
    simp only[Bool.or_false]
    refine Bool.eq_false_iff.2 λhc=>?_
    simp only[Ext.us,wc,zG] at hc
    obtain⟨p,hp,rfl⟩:=zF.1 hc
    grind [uTop]
 rw[e] at key
 intro γ w as hg ho ha hbl
 have key2:∀(γ:Gh) (a:Act) (w:World),Sim G γ (entry (max fn.ntmps args.length) args (ofL x.bs)) a.tmps w->a.defers=[]->
   CW none P c (λe a' w'=>∃v0,A3 8 (res r) v0=res r/\L6 G ⟨none,[],true⟩ γ (entry (max fn.ntmps args.length) args (ofL x.bs)) w (Done P fn.results.toList v0 (ofL (outs r))) e a' w') a w:=λγ a w hs hd=>
  wpIn_mono (key ⟨none,[],true⟩ γ a w hs ⟨hd,rfl,λ_ h=>by simp at h⟩) λe a' w' hl=>by
   obtain⟨st',γ',k1,k2,k3,v0,k4,k5⟩:=hl
   exact⟨v0,k4,st',γ',k1,k2,k3,k5⟩
 exact callC_body hf hc rfl key2 γ w as hg ho ha hbl
def FnD(P:Program)(G:zd)(kp:List Nat)(fn:Func)(args:List V){ρ:Type}(g:T P G ρ)(res:ρ->V):Prop:=
 fnC P G kp fn args (Ext.l .normal (H8 args) []) g res (λ_=>[])=(true,g.expect (.fn fn.results.toList res λ_=>[]))
def Spec.ofFn{P:Program}{G:zd}{kp:List Nat}(f:FuncId){fn:Func}{args:List V}{ρ:Type}{g:T P G ρ}{res:ρ->V}(hm:P.follows .mixedOrders=true)(hf:P.funcs[f]?=some fn)(k:FnD P G kp fn args g res):Spec P G ρ:=
 ⟨f,args,[],g.run,res,λ_=>[],[],λ_ _ h=>by simp at h,fn_ok hm hf rfl k⟩
def FnB(P:Program)(G:zd)(kp:List Nat)(fn:Func)(args:List V)(x:Ext){ρ:Type}(g:T P G ρ)(res:ρ->V)(O:ρ->Ext):Prop:=
 fnC P G kp fn args x g res (λr=>(O r).bs)=(true,g.expect (.fn fn.results.toList res λr=>(O r).bs))
def Spec.ofFnB{P:Program}{G:zd}{kp:List Nat}(f:FuncId){fn:Func}{args:List V}{x:Ext}{ρ:Type}{g:T P G ρ}{res:ρ->V}{O:ρ->Ext}(dt:List Nat)(hm:P.follows .mixedOrders=true)(hf:P.funcs[f]?=some fn)(hx:x.ts=H8 args)
  (hdt:∀r,((O r).bs.all λp=>!dt.contains p.1 || (O r).dt.contains p.1)=true) (k:FnB P G kp fn args x g res O):Spec P G ρ:=
 ⟨f,args,x.bs,g.run,res,λr=>(O r).bs,dt,λr p hp hd=>(O r).dat p hp (by
  grind),fn_ok hm hf hx k⟩
def FnP(P:Program)(G:zd)(kp:List Nat)(fn:Func)(args:List V)(x:Ext){α β:Type}(g:T P G (α⊕β))(res:α->V)(O:α->Ext)(pan:β->Value)(OP:β->Ext):Prop:=
 fnCP P G kp fn args x g res (λr=>(O r).bs) pan (λr=>(OP r).bs)=(true,g.expect (.fnp fn.results.toList res (λr=>(O r).bs) (λz=>.panic (D5 (pan z))) λr=>(OP r).bs))
def SpecP.ofFn{P:Program}{G:zd}{kp:List Nat}(f:FuncId){fn:Func}{args:List V}{x:Ext}{α β:Type}{g:T P G (α⊕β)}{res:α->V}{O:α->Ext}{pan:β->Value}{OP:β->Ext}(dt:List Nat)(hm:P.follows .mixedOrders=true)(hf:P.funcs[f]?=some fn)(hx:x.ts=H8 args)
  (hdt:∀r,((O r).bs.all λp=>!dt.contains p.1 || (O r).dt.contains p.1)=true) (hdp:∀r,((OP r).bs.all λp=>!dt.contains p.1 || (OP r).dt.contains p.1)=true) (k:FnP P G kp fn args x g res O pan OP):SpecP P G α β:=
 ⟨f,args,x.bs,g.run,res,λr=>(O r).bs,pan,λr=>(OP r).bs,dt,λr p hp hd=>(O r).dat p hp (by
  grind),λr p hp hd=>(OP r).dat p hp (by
  grind),(fnp_ok hm hf hx k).1,(fnp_ok hm hf hx k).2⟩
def Q7(n:Int):Int:=IntKind.i64.wrap n
def Z5(n:Int):Int:=IntKind.u64.wrap n
def A5(n:Int):Int:=IntKind.u32.wrap n
def wu8(n:Int):Int:=IntKind.u8.wrap n
def bs(l:List UInt8):za:=⟨⟨l⟩⟩
def bAt(s:za)(i:Int):Int:=(s.data.getD i.toNat 0).toNat
def Y1(k:IntKind)(a b:Int):Int:=k.wrap (BitVec.ofInt k.bits a &&& BitVec.ofInt k.bits b).toNat
def bOr(k:IntKind)(a b:Int):Int:=k.wrap (BitVec.ofInt k.bits a ||| BitVec.ofInt k.bits b).toNat
def K9(k:IntKind)(a b:Int):Int:=k.wrap (BitVec.ofInt k.bits a ^^^ BitVec.ofInt k.bits b).toNat
def N6(k:IntKind)(a b:Int):Int:=k.wrap (a * 2 ^ (min b.toNat k.bits))
def Z3(k:IntKind)(a b:Int):Int:=a.fdiv (2 ^ (min b.toNat k.bits))
def mlenn{α:Type}(t:Ty α)(l:List α):Nat:=(l.map t.c).length
def Y6{α:Type}(t:Ty α)(l:List α):Int:=(mlenn t l:Nat)
theorem mlenn_eq{α:Type}(t:Ty α)(l:List α):mlenn t l=l.length:=by simp[mlenn]
theorem U6{α:Type}(t:Ty α)(l:List α):Y6 t l=(l.length:Int):=by simp[Y6,mlenn]
def ReW.tmp(d:Nat)(a b:V)(h:a=b):ReW:=⟨[.t d a],[.t d b],by rw[h],[],λ_ _ h=>by simp at h⟩
def ReW.cutHi{α:Type}(d z:Nat)(t:Ty α)(l:List α)(h:Nat):ReW:=.tmp d (.sl false z (((l.map t.c).take h).drop 0)) (.sl false z ((l.take h).map t.c)) (by simp)
def ReW.put{α:Type}(i z:Nat)(t:Ty α)(l:List α)(j:Nat)(y:α):ReW:=
 ⟨[.b i (some ⟨z,true,(l.map t.c).set j (t.c y)⟩)],[.b i (some ⟨z,true,(l.set j y).map t.c⟩)],by rw[List.map_set],[i],λb k h _=>by
  simp only[we,Wr.b.injEq,zp] at h
  obtain⟨_,rfl⟩:=h
  exact t.data _⟩
theorem Rep.yld_inv{γ:Gh}{w:World}{bs:ze}{u:zf}{l:Nat}{v:Value}(h:Rep γ w bs u (.yld l) v):v=.func (.yield l) #[] #[]:=by
 cases h with
 | data h=>cases h;rfl
theorem Rep.pin{γ γ':Gh}{w w':World}{bs bs':ze}{u u':zf}(g:Grow γ w γ' w')(hp:Pin γ bs u γ' bs' u'){c:V}{v:Value}(h:Rep γ w bs u c v):okV I9 c=true->Rep γ' w' bs' u' c v:=by
 have top:∀{b},I9 b=true->I9 b=true:=λh=>h
 induction h with
 | data h=>exact λ_=>.data (g.data h)
 | undef v=>exact λ_=>.undef v
 | ref b off len B o cap k h1 h2 h3 h4 h5 h6 h7=>
  intro ho
  simp only[okV] at ho
  obtain⟨_,_,hk⟩:=hp b (top ho)
  obtain⟨hu,hk⟩:=hk k h1
  rcases hk with hk|⟨k',hk,hs,hr,hl⟩
  ·exact .deadRef b off len _ hk hu rfl
  ·rw[<-hs]
   exact .ref b off len B o cap k' hk (hl.trans h2) (by grind) h4 (g.roomAt (by grind)) (by grind) (by grind)
 | refE b off B k h1 h6 h2=>
  intro ho
  simp only[okV] at ho
  obtain⟨_,_,hk⟩:=hp b (top ho)
  obtain⟨hu,hk⟩:=hk k h1
  rcases hk with hk|⟨k',hk,hs,hr,hl⟩
  ·exact .deadRef b off 0 _ hk hu rfl
  ·exact .refE b off B k' hk (by grind) ((hr h6).trans h2)
 | refN b off k h1 h6 h2=>
  intro ho
  simp only[okV] at ho
  obtain⟨_,_,hk⟩:=hp b (top ho)
  obtain⟨hu,hk⟩:=hk k h1
  rcases hk with hk|⟨k',hk,hs,hr,hl⟩
  ·exact .deadRef b off 0 _ hk hu rfl
  ·exact .refN b off k' hk (by grind) ((hr h6).trans h2)
 | deadRef b off len v h1 h2 h3=>
  intro ho
  simp only[okV] at ho
  obtain⟨hu,hg,_⟩:=hp b (top ho)
  exact .deadRef b off len v (hg h2 h1) (hu h2) h3
 | ptr b i off B o k h1 h2 h3=>
  intro ho
  simp only[okV] at ho
  obtain⟨_,_,hk⟩:=hp b (top ho)
  obtain⟨hu,hk⟩:=hk k h1
  rcases hk with hk|⟨k',hk,hs,hr,hl⟩
  ·exact .deadPtr b i off _ hk hu rfl
  ·rw[<-hs];exact .ptr b i off B o k' hk (hl.trans h2) (by grind)
 | mp b B k h1 h2 h3=>
  intro ho
  simp only[okV] at ho
  obtain⟨_,_,hk⟩:=hp b (top ho)
  obtain⟨hu,hk⟩:=hk k h1
  rcases hk with hk|⟨k',hk,hs,hr,hl⟩
  ·exact .deadMp b _ hk hu rfl
  ·exact .mp b B k' hk (hl.trans h2) (by grind)
 | deadMp b v h1 h2 h3=>
  intro ho
  simp only[okV] at ho
  obtain⟨hu,hg,_⟩:=hp b (top ho)
  exact .deadMp b v (hg h2 h1) (hu h2) h3
 | deadPtr b i off v h1 h2 h3=>
  intro ho
  simp only[okV] at ho
  obtain⟨hu,hg,_⟩:=hp b (top ho)
  exact .deadPtr b i off v (hg h2 h1) (hu h2) h3
 | fn f first captured fs cs h1 h2 _ _ ih1 ih2=>
  intro ho
  simp only[okV,zC] at ho
  exact .fn f first captured fs cs h1 h2 (by grind [C3]) (by grind [C3])
 | agg cells vs h1 _ ih=>intro ho;exact .agg cells vs h1 (by grind [C3,okV])
 | tup cells vs h1 _ ih=>intro ho;exact .tup cells vs h1 (by grind [C3,okV])
def E1(n:Nat)(t:Nat->V)(b:ze):St:=⟨n,t,b,uTop⟩
theorem Sim.resume{G:zd}{γ γ':Gh}{w w':World}{n m:Nat}{t t':Nat->V}{b b':ze}{te tm:Array Value}(h:Sim G γ (E1 n t b) te w)(ht:∀i,okV I9 (t i)=true)
  (g:Grow γ w γ' w') (hp:Pin γ b uTop γ' b' uTop) (h':Sim G γ' (E1 m t' b') tm w'):Sim G γ' (E1 n t b') te w':=
 ⟨h.n,λi=>(h.t i).pin g hp (ht i),h'.b,h'.u,h'.g,h'.o⟩
def setP(st:St)(l:List (Nat×V)):St:=l.foldl (λst p=>st.setT p.1 p.2) st
theorem Sim.setP{G:zd}{γ:Gh}{w:World}:∀{ps:List Nat} {cs:List V} {vs:List Value} {st:St} {ts:Array Value},Sim G γ st ts w->(∀p,p∈ps->p < st.n)->cs.length=ps.length->vs.length=ps.length->
  (∀(i:Nat) (c:V) (v:Value),cs[i]?=some c->vs[i]?=some v->Rep γ w st.b st.u c v)->Sim G γ (EV.setP st (ps.zip cs)) ((ps.zip vs).foldl (λt p=>t.setIfInBounds p.1 p.2) ts) w
 | [],cs,vs,st,ts,h,_,_,_,_=>by simpa[EV.setP] using h
 | p :: ps,c :: cs,v :: vs,st,ts,h,hp,h1,h2,hr=>by
  have key:Sim G γ (st.put (some p) c) ((⟨ts,[]⟩:Act).put (some p) v).tmps w:=Sim.put (a:=⟨ts,[]⟩) h (by grind [H7]) (hr 0 c v rfl rfl)
  exact Sim.setP (ps:=ps) (cs:=cs) (vs:=vs) (st:=st.setT p c) key (λq hq=>hp q (by simp[hq])) (by simpa using h1) (by simpa using h2) λi c' v' hc hv=>hr (i+1) c' v' (by simpa using hc) (by simpa using hv)
 | p :: ps,[],vs,st,ts,_,_,h1,_,_=>by simp at h1
 | p :: ps,c :: cs,[],st,ts,_,_,_,h2,_=>by simp at h2
theorem setP_bu:∀(L:List (Nat×V)) (s:St),(setP s L).b=s.b/\(setP s L).u=s.u
 | [],_=>⟨rfl,rfl⟩
 | p :: L,s=>⟨(setP_bu L (s.setT p.1 p.2)).1,(setP_bu L (s.setT p.1 p.2)).2⟩
def RoundT(P:Program)(G:zd)(n:Nat)(t:Nat->V)(ps:List Nat)(assign body:Code)(b:ze)(cs:List V)(R:Exit->(ze)->Prop):Prop:=
 ∃st1,TV P G assign (setP (E1 n t b) (ps.zip cs)) (λe s=>e=.normal/\Gst G s st1)/\
  TV P G body st1 (λe s=>∃b' m,R e b'/\Gst G s (E1 m (λ_=>.undef) b'))
def P2:Exit->Option Code
 | .ret=>some .ret
 | .exit id=>some (.exit id)
 | _=>none
def X6(fn:FuncId)(te:Array Value)(ps:Array Tmp)(assign body:Code)(D:Nat)(e:Exit):Loop:=
 { state:=if (P2 e).isNone then .ready else .done,pending:=P2 e,fn,tmps:=te,params:=ps,assign,body,defers:=D }
structure YL where
 n:Nat
 t:Nat->V
 ps:Array Tmp
 assign:Code
 body:Code
structure Env(G:zd)(L:YL)(γ0:Gh)(w0:World)(b0:ze)(l D:Nat)(Ds:List Nat)(sz:Nat)(te:Array Value)(r:Loop)(γ:Gh)(b:ze)(u:zf)(w:World):Prop where
 sim0:Sim G γ0 (E1 L.n L.t b0) te w0
 grow:Grow γ0 w0 γ w
 pin:Pin γ0 b0 uTop γ b u
 loop:w.heap[l]?=some (.loop r)
 own:γ.own l=none
 lo:w0.heap.size<=l/\l < sz/\w0.heap.size<=sz/\sz<=w.heap.size
 dfr:∀E,E∈Ds->w.heap[E]?=some (.deferred (some []))/\γ.own E=none/\w0.heap.size<=E/\E < sz/\E≠l
def X8(sz:Nat)(γ:Gh)(w:World)(ds:List Deferred):Prop:=
 ∃Es:List Nat,ds=Es.map markD/\Es.Nodup/\∀E,E∈Es->sz<=E/\w.heap[E]?=some (.deferred (some []))/\γ.own E=none
theorem X8.nil{sz:Nat}{γ:Gh}{w:World}:X8 sz γ w []:=⟨[],rfl,by simp,λE h=>by simp at h⟩
theorem X8.trans{sz:Nat}{γ γ':Gh}{w w':World}{ds ds':List Deferred}(h:X8 sz γ w ds)(g:Grow γ w γ' w')(k:V7 true w γ' w' ds ds')(hz:sz<=w.heap.size):X8 sz γ' w' ds':=by
 obtain⟨Es,rfl,h2,h3⟩:=h
 obtain⟨Fs,_,k1,k2,k3⟩:=k
 have lt:∀E,E∈Es->E < w.heap.size:=(by grind)
 refine⟨Fs++Es,by rw[k1];simp,List.nodup_append.2 ⟨k2,h2,λx hx y hy e=>?_⟩,λE hE=>?_⟩
 ·grind
 ·rcases zU.1 hE with hE|hE
  ·grind
  ·obtain⟨a1,a2,a3⟩:=h3 E hE
   obtain⟨b1,b2,_⟩:=g.free E (lt E hE) a3
   grind
theorem X8.grow{sz:Nat}{γ γ':Gh}{w w':World}{ds:List Deferred}(h:X8 sz γ w ds)(g:Grow γ w γ' w'):X8 sz γ' w' ds:=by
 obtain⟨Es,h1,h2,h3⟩:=h
 refine⟨Es,h1,h2,λE hE=>?_⟩
 obtain⟨a1,a2,a3⟩:=h3 E hE
 obtain⟨b1,b2,_⟩:=g.free E (by grind) a3
 grind
theorem X8.put{sz:Nat}{γ:Gh}{w:World}{ds:List Deferred}{l:Nat}{r:Loop}{o:Obj}(h:X8 sz γ w ds)(hl:w.heap[l]?=some (.loop r)):X8 sz γ (w.putObj l o) ds:=by
 obtain⟨Es,h1,h2,h3⟩:=h
 refine⟨Es,h1,h2,λE hE=>?_⟩
 grind [World.putObj_heap_other]
section
variable {P:Program} {G:zd} {L:YL} {γ0:Gh} {w0:World} {b0:ze} {l D:Nat} {Ds:List Nat} {sz:Nat} {te:Array Value} {r:Loop} {γ:Gh} {b:ze} {u:zf} {w:World}
theorem Env.step(h:Env G L γ0 w0 b0 l D Ds sz te r γ b u w){γ':Gh}{b':ze}{u':zf}{w':World}(g:Grow γ w γ' w')(hp:Pin γ b u γ' b' u'):Env G L γ0 w0 b0 l D Ds sz te r γ' b' u' w':=by
 have l1:=(wk.1 h.loop).1
 refine⟨h.sim0,h.grow.trans g,h.pin.trans hp,(g.free l l1 h.own).1.trans h.loop,(g.free l l1 h.own).2.1,⟨h.lo.1,h.lo.2.1,h.lo.2.2.1,Nat.le_trans h.lo.2.2.2 g.size⟩,λE hE=>?_⟩
 obtain⟨a1,a2,a3⟩:=h.dfr E hE
 obtain⟨b1,b2,_⟩:=g.free E (by grind) a2
 grind
theorem Env.put(h:Env G L γ0 w0 b0 l D Ds sz te r γ b u w){i:Nat}{o o':Obj}(hi:w.heap[i]?=some o)(hn:dataObj o=false)(h0:w0.heap.size<=i)(hil:i≠l)(hd:∀E,E∈Ds->E≠i):Env G L γ0 w0 b0 l D Ds sz te r γ b u (w.putObj i o'):=
 ⟨h.sim0,h.grow.put hi hn h0,h.pin,(World.putObj_heap_other (Ne.symm hil)).trans h.loop,h.own,⟨h.lo.1,h.lo.2.1,h.lo.2.2.1,by rw[World.putObj_size];exact h.lo.2.2.2⟩,λE hE=>by
  obtain⟨a1,a2⟩:=h.dfr E hE
  grind [World.putObj_heap_other,trans]⟩
theorem Env.record(h:Env G L γ0 w0 b0 l D Ds sz te r γ b u w)(r':Loop):Env G L γ0 w0 b0 l D Ds sz te r' γ b u (w.putObj l (.loop r')):=
 ⟨h.sim0,h.grow.put h.loop rfl h.lo.1,h.pin,World.putObj_heap_same (wk.1 h.loop).1,h.own,⟨h.lo.1,h.lo.2.1,h.lo.2.2.1,by rw[World.putObj_size];exact h.lo.2.2.2⟩,λE hE=>by
  obtain⟨a1,a2,a3,a4,a5⟩:=h.dfr E hE
  grind [World.putObj_heap_other,trans]⟩
theorem yield_round{fn:FuncId}{ni:Nat}{ti:Nat->V}{tm:Array Value}{cs:List V}{as:Array Value}{R:Exit->(ze)->Prop}{X:Ending->World->Prop}(hs:Sim G γ (E1 ni ti b) tm w)(hti:∀i,okV I9 (ti i)=true)(ht:∀i,okV I9 (L.t i)=true)(hpn:∀p,p∈L.ps.toList->p < L.n)
  (he:Env G L γ0 w0 b0 l D Ds sz te (X6 fn te L.ps L.assign L.body D .normal) γ b uTop w) (hps:cs.length=L.ps.size) (hr:RoundT P G L.n L.t L.ps.toList L.assign L.body b cs R) (hR:∀e b',R e b'->e=.normal\/e=.ret\/∃id,e=.exit id)
  (ha:as.size=L.ps.size) (hcs:∀(i:Nat) (c:V) (v:Value),cs[i]?=some c->as[i]?=some v->Rep γ w b uTop c v)
  {ds:List Deferred} (hk:X8 sz γ w ds)
  (hX:∀e b' γ' w',R e b'->Env G L γ0 w0 b0 l D Ds sz te (X6 fn te L.ps L.assign L.body D e) γ' b' uTop w'->Sim G γ' (E1 ni ti b') tm w'->X8 sz γ' w' ds->(∀B,B < w.heap.size->γ.own B=none->B≠l->w'.heap[B]?=w.heap[B]?/\γ'.own B=none/\γ'.lim B=γ.lim B)->X (.returned (.bool (P2 e).isNone)) w') :
  RoundIn (RF none) 0 P l fn ((L.ps.zip as).foldl (λt (p,v)=>t.setIfInBounds p v) te) L.assign L.body w X:=by
 obtain⟨st1,r1,r2⟩:=hr
 have e1:(L.ps.zip as).foldl (λt (p,v)=>t.setIfInBounds p v) te=(L.ps.toList.zip as.toList).foldl (λt p=>t.setIfInBounds p.1 p.2) te:=by
  rw[<-Array.foldl_toList,Array.toList_zip]
 refine roundIn_of_wpIn trivial ?_
 rw[e1]
 have sT:Sim G γ (E1 L.n L.t b) te w:=he.sim0.resume ht he.grow he.pin hs
 have h1:Sim G γ (setP (E1 L.n L.t b) (L.ps.toList.zip cs)) ((L.ps.toList.zip as.toList).foldl (λt p=>t.setIfInBounds p.1 p.2) te) w:=
  Sim.setP sT hpn (by grind) (by simpa using ha) λi c v hc hv=>hcs i c v hc (by simpa using hv)
 have b1:=setP_bu (L.ps.toList.zip cs) (E1 L.n L.t b)
 refine wpIn_mono (r1 ⟨some l,[],true⟩ γ ⟨_,[]⟩ w h1 ⟨rfl,rfl,λl' hl'=>by cases hl';exact⟨⟨_,he.loop⟩,he.own⟩⟩) λe a1 w1 hl=>?_
 obtain⟨s1,γ1,k1,⟨k2,k2p⟩,k3,rfl,k4⟩:=hl
 obtain⟨γ2,m1,m2,m3⟩:=k4 γ1 a1.tmps w1 k1
 have g2:=k2.trans m2
 have p2:=k2p.trans m3
 rw[b1.1,b1.2] at p2
 have hl1:w1.heap[l]?=some (.loop (X6 fn te L.ps L.assign L.body D .normal)):=(k2.free l (wk.1 he.loop).1 he.own).1.trans he.loop
 refine⟨_,run_beginRound hl1 rfl,?_⟩
 have cs1:∀o',Y5 w1 (w1.putObj l o'):=λo'=>.put hl1 rfl
 have own2:γ2.own l=none:=(g2.free l (wk.1 he.loop).1 he.own).2.1
 refine wpIn_mono (r2 ⟨some l,a1.defers,true⟩ γ2 a1 _ ((cs1 _).sim m1) ⟨rfl,rfl,(by grind [World.putObj_heap_same,Array.getElem?_eq_some_iff])⟩) λe a2 w2 hl=>?_
 obtain⟨s2,γ3,n1,⟨n2,n2p⟩,n3,b',m,q1,q2⟩:=hl
 obtain⟨γ4,o1,o2,o3⟩:=q2 γ3 a2.tmps w2 n1
 have g4:=n2.trans o2
 have p4:=n2p.trans o3
 have eB:=he.record { X6 fn te L.ps L.assign L.body D .normal with state:=.busy }
 have csw:∀o',Y5 w (w.putObj l o'):=λo'=>.put he.loop rfl
 have gB:Grow γ (w.putObj l (.loop { X6 fn te L.ps L.assign L.body D .normal with state:=.busy })) γ2 (w1.putObj l (.loop { X6 fn te L.ps L.assign L.body D .normal with state:=.busy })):=by
  refine⟨g2.os,g2.tape,g2.output,by simpa using g2.size,λB o v hB hc=>?_,λB hB=>g2.lim B (by simpa using hB),λB hB hn=>?_,λB cs e fz hc=>?_⟩
  ·have hne:B≠l:=λe=>by
    subst e
    obtain⟨c1,c2,c3,hb⟩:=cellAt_block hc
    rw[World.putObj_heap_same (wk.1 he.loop).1] at hb;cases hb
   refine(cs1 _).cell (g2.imm B o v hB ?_)
   grind [World.putObj_heap_other,cellAt,World.cell?]
  ·rw[World.putObj_size] at hB
   obtain⟨a1,a2,a3⟩:=g2.free B hB hn
   grind [World.putObj_heap_same,Array.getElem?_eq_some_iff,World.putObj_heap_other]
  ·have hne:B≠l:=λe'=>by
    subst e'
    rw[World.putObj_heap_same (wk.1 he.loop).1] at hc;cases hc
   rw[World.putObj_heap_other hne] at hc
   obtain⟨cs',fz',c1,c2⟩:=g2.room B cs e fz hc
   grind [World.putObj_heap_other]
 have gT:=gB.trans g4
 have pT:Pin γ b uTop γ4 b' uTop:=p2.trans p4
 have sI:Sim G γ4 (E1 ni ti b') tm w2:=((csw _).sim hs).resume hti gT pT o1
 have f1:=eB.step gT pT
 have hl2:=f1.loop
 have mk2:X8 sz γ4 w2 ds:=(hk.put he.loop).grow gT
 have fin:∀(e:Exit),R e b'->(Instr.endRound l (P2 e)).run P w2=.ok (.bool (P2 e).isNone) (w2.putObj l (.loop (X6 fn te L.ps L.assign L.body D e)))/\X (.returned (.bool (P2 e).isNone)) (w2.putObj l (.loop (X6 fn te L.ps L.assign L.body D e))):=λe hRe=>
  ⟨run_endRound (P:=P) (P2 e) hl2,hX e b' γ4 _ hRe (f1.record _) ((Y5.put hl2 rfl).sim sI) (mk2.put hl2) λB hB hn hne=>by
   obtain⟨q1,q2,q3⟩:=gT.free B (by simpa using hB) hn
   grind [World.putObj_heap_other,trans]⟩
 rcases hR e b' q1 with rfl|rfl|⟨id,rfl⟩
 ·exact⟨_,_,fin .normal q1⟩
 ·exact⟨_,_,fin .ret q1⟩
 ·exact⟨_,_,fin (.exit id) q1⟩
theorem yield_op{fn:FuncId}{o:Oper}{x:Operand}{xs:Array Operand}{ts:Array TypeId}{ni:Nat}{ti:Nat->V}{a:Act}{cs:List V}{R:Exit->(ze)->Prop}{nx:Act->World->Prop}{Q:Exit->Act->World->Prop}
  (ho:o.op=.call { callee:=.value x,args:=xs,argTypes:=ts }) (hx:(E1 ni ti b).ev G x=some (.yld l)) (hcs:evs ((E1 ni ti b).ev G) xs.toList=some cs)
  (hs:Sim G γ (E1 ni ti b) a.tmps w) (hti:∀i,okV I9 (ti i)=true) (ht:∀i,okV I9 (L.t i)=true) (hpn:∀p,p∈L.ps.toList->p < L.n)
  (he:Env G L γ0 w0 b0 l D Ds sz te (X6 fn te L.ps L.assign L.body D .normal) γ b uTop w) (hps:cs.length=L.ps.size) (hr:RoundT P G L.n L.t L.ps.toList L.assign L.body b cs R) (hR:∀e b',R e b'->e=.normal\/e=.ret\/∃id,e=.exit id)
  (hk:X8 sz γ w a.defers) (hX:∀e b' γ' w',R e b'->Env G L γ0 w0 b0 l D Ds sz te (X6 fn te L.ps L.assign L.body D e) γ' b' uTop w'->Sim G γ' (E1 ni ti b') a.tmps w'->X8 sz γ' w' a.defers->(∀B,B < w.heap.size->γ.own B=none->B≠l->w'.heap[B]?=w.heap[B]?/\γ'.own B=none/\γ'.lim B=γ.lim B)->nx (a.put o.dst (.bool (P2 e).isNone)) w') :
  o.wpIn (RF none) 0 P a w nx Q:=by
 refine⟨λ_ _=>trivial,?_⟩
 have hv:=(hs.ev hx).yld_inv
 have e : (execOp a.eval o) = (do let d <- Deferred.ofValue (a.eval x) (xs.map a.eval); invoke d.target d.args) := by
  unfold execOp;rw[ho];rfl
 have hm:=evs_rep hs hcs
 have k:(xs.toList.map a.eval).toArray=xs.map a.eval:=(by grind)
 rw[k] at hm
 have hsz:(xs.map a.eval).size=L.ps.size:=hm.1.trans hps
 have hrun:(execOp a.eval o).run P w=.ok (.round l fn ((L.ps.zip (xs.map a.eval)).foldl (λt (p,v)=>t.setIfInBounds p v) te) L.assign L.body) w:=by
  rw[e,hv]
  have : (do let d <- Deferred.ofValue (.func (.yield l) #[] #[]) (xs.map a.eval); invoke d.target d.args : Sem Next) = Instr.yield l (xs.map a.eval) := by
   simp[Deferred.ofValue,invoke]
  rw[this]
  exact run_yield he.loop hsz
 show o.uponIn _ _ _ _ _ _ (((o.semAt none a.eval)).run P w)
 rw[Oper.semAt_none,hrun,Oper.uponIn_round]
 refine⟨(by grind [RF,Fence.wide]),?_⟩
 exact yield_round hs hti ht hpn he hps hr hR hsz (λi c v hc hv=>hm.2 i c v hc hv) hk (by grind)
end
def IterP(P:Program)(G:zd)(c:Code)(m:Nat)(args:Nat->List V)(bi:ze)(L:YL)(R Rp:Exit->(ze)->Prop):Prop:=
 ∀(fn:FuncId) (γ0:Gh) (w0:World) (b0:ze) (l D:Nat) (Ds:List Nat) (sz:Nat) (te:Array Value) (γ:Gh) (a:Act) (w:World),
  Env G L γ0 w0 b0 l D Ds sz te (X6 fn te L.ps L.assign L.body D .normal) γ bi uTop w->Sim G γ (entry m (args l) bi) a.tmps w->a.defers=[]->
  CW none P c (λe a' w'=>∃e2 b' γ' ni ti tm,((e=.normal\/e=.ret)/\R e2 b'\/(∃ch,e=.panic ch)/\Rp e b')/\Env G L γ0 w0 b0 l D Ds sz te (X6 fn te L.ps L.assign L.body D e2) γ' b' uTop w'/\Sim G γ' (E1 ni ti b') tm w'/\X8 sz γ' w' a'.defers) a w
abbrev IterT(P:Program)(G:zd)(c:Code)(m:Nat)(args:Nat->List V)(bi:ze)(L:YL)(R:Exit->(ze)->Prop):Prop:=IterP P G c m args bi L R λ_ _=>False
theorem heap_alloc(w:World)(o:Obj)(B:Nat)(hB:B < w.heap.size):(w.alloc o).heap[B]?=w.heap[B]?:=by
 show (w.heap.push o)[B]?=_
 grind
theorem Grow.alloc(γ:Gh)(w:World)(o:Obj):Grow γ w γ (w.alloc o)/\Y5 w (w.alloc o):=by
 have cs:Y5 w (w.alloc o):=⟨by simp,(by grind [Array.getElem?_eq_some_iff,heap_alloc,trans]),(by grind [Array.getElem?_eq_some_iff,heap_alloc,trans])⟩
 exact⟨(Grow.refl γ w).same cs (by grind [heap_alloc]) rfl rfl rfl,cs⟩
section
variable {P:Program} {G:zd}
theorem enter_law{L:YL}(fn:FuncId){fx:Fx}{γ:Gh}{st:St}{a:Act}{w:World}(hs:Sim G γ st a.tmps w)(hx:FxOk fx γ a.defers w) :
  ∃(l D:Nat) (Ds:List Nat) (w1:World),(Instr.enterLoop fn a.tmps L.ps L.assign L.body fx.ro).run P w=.ok (l,Ds.map markD) w1/\Ds.Nodup/\w1.heap[l]?=some (.loop (X6 fn a.tmps L.ps L.assign L.body D .normal))/\
   (Grow γ w γ w1/\Y5 w w1)/\γ.own l=none/\(w.heap.size<=l/\l < w1.heap.size)/\∀E,E∈Ds->w1.heap[E]?=some (.deferred (some []))/\γ.own E=none/\w.heap.size<=E/\E < w1.heap.size/\E≠l:=by
 have hnone:∀B,w.heap.size<=B->γ.own B=none:=λB hB=>by
  cases ho:γ.own B with
  | none=>rfl
  | some x=>have:=hs.o B x ho;omega
 cases hro:fx.ro with
 | none=>
  have hL:((w.alloc (.deferred (some []))).alloc (.loop (X6 fn a.tmps L.ps L.assign L.body w.heap.size .normal))).heap[w.heap.size+1]?=some (.loop (X6 fn a.tmps L.ps L.assign L.body w.heap.size .normal)):=by
   grind [World.alloc_heap_new,World.size_alloc,X6]
  have hD:((w.alloc (.deferred (some []))).alloc (.loop (X6 fn a.tmps L.ps L.assign L.body w.heap.size .normal))).heap[w.heap.size]?=some (.deferred (some [])):=
   (heap_alloc _ _ _ (by simp)).trans (World.alloc_heap_new w _)
  obtain⟨x1,x2⟩:=Grow.alloc γ w (.deferred (some []))
  obtain⟨y1,y2⟩:=Grow.alloc γ (w.alloc (.deferred (some []))) (.loop (X6 fn a.tmps L.ps L.assign L.body w.heap.size .normal))
  refine⟨w.heap.size+1,w.heap.size,[w.heap.size],_,run_enterLoop_outer _ _ _ _ _,by simp,hL,⟨x1.trans y1,x2.trans y2⟩,hnone _ (by omega),⟨by omega,(wk.1 hL).1⟩,λE hE=>?_⟩
  simp only[we] at hE
  subst hE
  exact⟨hD,hnone _ (zD _),zD _,(wk.1 hD).1,by omega⟩
 | some l0=>
  obtain⟨⟨r0,h0⟩,_⟩:=hx.2.2 l0 hro
  have hL:=World.alloc_heap_new w (.loop (X6 fn a.tmps L.ps L.assign L.body r0.defers .normal))
  exact⟨w.heap.size,r0.defers,[],_,run_enterLoop_inner h0 _ _ _ _ _,by simp,hL,Grow.alloc γ w _,hnone _ (zD _),⟨zD _,(wk.1 hL).1⟩,λE hE=>by simp at hE⟩
end
structure YS where
 x:Exit
 st:St
def YPost(G:zd)(L:YL)(l:Nat)(fn:FuncId)(γ0:Gh)(w0:World)(b0:ze)(D:Nat)(Ds:List Nat)(sz:Nat)(te:Array Value)(Q:Exit->YS->Prop)(e:Exit)(a':Act)(w':World):Prop:=
 ∃s' γ',X8 sz γ' w' a'.defers/\Env G L γ0 w0 b0 l D Ds sz te (X6 fn te L.ps L.assign L.body D s'.x) γ' s'.st.b s'.st.u w'/\Sim G γ' s'.st a'.tmps w'/\Q e s'
def YT(P:Program)(G:zd)(L:YL)(l:Nat)(c:Code)(s:YS)(Q:Exit->YS->Prop):Prop:=
 ∀(fn:FuncId) (γ0:Gh) (w0:World) (b0:ze) (D:Nat) (Ds:List Nat) (sz:Nat) (te:Array Value) (γ:Gh) (a:Act) (w:World),
  Env G L γ0 w0 b0 l D Ds sz te (X6 fn te L.ps L.assign L.body D s.x) γ s.st.b s.st.u w->Sim G γ s.st a.tmps w->X8 sz γ w a.defers->
  CW none P c (YPost G L l fn γ0 w0 b0 D Ds sz te Q) a w
def thenY(next:YS->Prop)(Q:Exit->YS->Prop):Exit->YS->Prop
 | .normal,s=>next s
 | e,s=>Q e s
def inBlockY(id:Nat)(Q:Exit->YS->Prop):Exit->YS->Prop
 | .exit id',s=>if id'=id then Q .normal s else Q (.exit id') s
 | e,s=>Q e s
section
variable {P:Program} {G:zd} {L:YL} {l:Nat} {s:YS} {Q:Exit->YS->Prop}
theorem YT.mono{c:Code}{Q':Exit->YS->Prop}(h:YT P G L l c s Q)(hq:∀e s,Q e s->Q' e s):YT P G L l c s Q':=λfn γ0 w0 b0 D Ds sz te γ a w he hs hd=>
 wpIn_mono (h fn γ0 w0 b0 D Ds sz te γ a w he hs hd) λ_ _ _ ⟨s',γ',h1,h2,h3,h4⟩=>⟨s',γ',h1,h2,h3,hq _ _ h4⟩
theorem YT.tv{c:Code}{Q1:Exit->St->Prop}(h:TV P G c s.st Q1)(hq:∀e st,Q1 e st->Q e ⟨s.x,st⟩):YT P G L l c s Q:=λfn γ0 w0 b0 D Ds sz te γ a w he hs hd=>
 wpIn_mono (h ⟨none,a.defers,true⟩ γ a w hs (FxOk.free γ w)) λe a' w' hl=>by
  obtain⟨st',γ',h1,⟨h2,h2p⟩,h3,h4⟩:=hl
  exact⟨⟨s.x,st'⟩,γ',hd.trans h2 h3 he.lo.2.2.2,he.step h2 h2p,h1,hq e st' h4⟩
theorem YT.seq{x y:Code}(h:YT P G L l x s (thenY (λs=>YT P G L l y s Q) Q)):YT P G L l (.seq x y) s Q:=λfn γ0 w0 b0 D Ds sz te γ a w he hs hd=>by
 refine wpIn_seq (wpIn_mono (h fn γ0 w0 b0 D Ds sz te γ a w he hs hd) λe a' w' hl=>?_)
 obtain⟨s',γ',h1,h2,h3,h4⟩:=hl
 cases e with
 | normal=>exact h4 fn γ0 w0 b0 D Ds sz te γ' a' w' h2 h3 h1
 | _=>exact⟨s',γ',h1,h2,h3,h4⟩
theorem YT.cond{o:Operand}{x y:Code}{b:Bool}(hc:s.st.ev G o=some (.bool b))(h:YT P G L l (if b then x else y) s Q):YT P G L l (.cond o x y) s Q:=λfn γ0 w0 b0 D Ds sz te γ a w he hs hd=>
 wpIn_cond ((hs.ev hc).bool_inv) (h fn γ0 w0 b0 D Ds sz te γ a w he hs hd)
theorem YT.block{id:Nat}{c:Code}(h:YT P G L l c s (inBlockY id Q)):YT P G L l (.block id c) s Q:=λfn γ0 w0 b0 D Ds sz te γ a w he hs hd=>by
 refine wpIn_block (wpIn_mono (h fn γ0 w0 b0 D Ds sz te γ a w he hs hd) λe a' w' hl=>?_)
 obtain⟨s',γ',h1,h2,h3,h4⟩:=hl
 cases e with
 | exit id'=>
  simp only[inBlockY] at h4
  simp only[Exit.inBlock]
  split
  ·rename_i he;rw[if_pos he] at h4;exact⟨s',γ',h1,h2,h3,h4⟩
  ·rename_i he;rw[if_neg he] at h4;exact⟨s',γ',h1,h2,h3,h4⟩
 | _=>exact⟨s',γ',h1,h2,h3,h4⟩
theorem YT.skip(h:Q .normal s):YT P G L l .skip s Q:=λ_ _ _ _ _ _ _ _ γ _ _ he hs hd=>wpIn_skip ⟨s,γ,hd,he,hs,h⟩
theorem YT.exit{id:Nat}(h:Q (.exit id) s):YT P G L l (.exit id) s Q:=λ_ _ _ _ _ _ _ _ γ _ _ he hs hd=>wpIn_exit ⟨s,γ,hd,he,hs,h⟩
theorem YT.loop{c:Code}(I:Nat->YS->Prop)(round:∀n s,I n s->YT P G L l c s (thenY (λs'=>∃m,m < n/\I m s') Q)){n:Nat}(h:I n s):YT P G L l (.loop c) s Q:=λfn γ0 w0 b0 D Ds sz te γ a w he hs hd=>by
 refine cw_loopN (λn a' w'=>YPost G L l fn γ0 w0 b0 D Ds sz te (λ_ s=>I n s) .normal a' w') (λn a' w' hI=>?_) n a w ⟨s,γ,hd,he,hs,h⟩
 obtain⟨s',γ',h1,h2,h3,h4⟩:=hI
 refine wpIn_mono (round n s' h4 fn γ0 w0 b0 D Ds sz te γ' a' w' h2 h3 h1) λe a2 w2 hl=>?_
 obtain⟨s2,γ2,k1,k2,k3,k4⟩:=hl
 cases e with
 | normal=>obtain⟨m,hm,hI⟩:=k4;exact⟨m,hm,s2,γ2,k1,k2,k3,hI⟩
 | _=>exact⟨s2,γ2,k1,k2,k3,k4⟩
theorem YT.gst{c:Code}{x:Exit}{st st':St}(g:Gst G st st')(h:YT P G L l c ⟨x,st'⟩ Q):YT P G L l c ⟨x,st⟩ Q:=λfn γ0 w0 b0 D Ds sz te γ a w he hs hd=>by
 obtain⟨γ',h1,h2,h3⟩:=g γ a.tmps w hs
 exact h fn γ0 w0 b0 D Ds sz te γ' a w (he.step h2 h3) h1 (hd.grow h2)
def K6(P:Program)(G:zd)(L:YL)(l:Nat)(ops:Array Oper)(is:List Nat)(s:YS)(Q:Exit->YS->Prop):Prop:=
 ∀(fn:FuncId) (γ0:Gh) (w0:World) (b0:ze) (D:Nat) (Ds:List Nat) (sz:Nat) (te:Array Value) (γ:Gh) (a:Act) (w:World),
  Env G L γ0 w0 b0 l D Ds sz te (X6 fn te L.ps L.assign L.body D s.x) γ s.st.b s.st.u w->Sim G γ s.st a.tmps w->X8 sz γ w a.defers->
  wpOpsIn (RF none) 0 P ops (YPost G L l fn γ0 w0 b0 D Ds sz te Q) is a w
theorem YT.region{id:Nat}{ops:Array Oper}(h:K6 P G L l ops (List.range ops.size) s Q):YT P G L l (.region id ops false) s Q:=λfn γ0 w0 b0 D Ds sz te γ a w he hs hd=>wpIn_region (h fn γ0 w0 b0 D Ds sz te γ a w he hs hd)
theorem K6.nil{ops:Array Oper}(h:Q .normal s):K6 P G L l ops [] s Q:=λ_ _ _ _ _ _ _ _ γ _ _ he hs hd=>⟨s,γ,hd,he,hs,h⟩
theorem K6.gst{ops:Array Oper}{is:List Nat}{x:Exit}{st st':St}(g:Gst G st st')(h:K6 P G L l ops is ⟨x,st'⟩ Q):K6 P G L l ops is ⟨x,st⟩ Q:=λfn γ0 w0 b0 D Ds sz te γ a w he hs hd=>by
 obtain⟨γ',h1,h2,h3⟩:=g γ a.tmps w hs
 exact h fn γ0 w0 b0 D Ds sz te γ' a w (he.step h2 h3) h1 (hd.grow h2)
theorem wpOpsIn_append{F:Fence}{n:Nat}{ops:Array Oper}{Q:Exit->Act->World->Prop}(js:List Nat):∀(is:List Nat) (a:Act) (w:World),wpOpsIn F n P ops (λe a w=>e=.normal/\wpOpsIn F n P ops Q js a w) is a w->wpOpsIn F n P ops Q (is++js) a w
 | [],a,w,h=>h.2
 | i :: is,a,w,h=>by
  have ih:=wpOpsIn_append (F:=F) (n:=n) (ops:=ops) (Q:=Q) js is
  simp only[wpOpsIn,List.cons_append] at h ⊢
  split
  ·grind
  ·rename_i o hi
   rw[hi] at h
   simp only at h ⊢
   split
   ·rename_i hw
    rw[if_pos hw] at h
    refine⟨h.1,?_⟩
    have h:=h.2
    unfold Oper.uponIn at h ⊢
    split at h
    ·exact ih _ _ h
    ·exact ih _ _ h
    ·exact ih _ _ h
    ·refine⟨h.1,CallsIn.mono h.2 λe w' hr=>?_⟩
     cases e with
     | returned v=>grind
     | panicked ch=>grind
     | outgrown=>obtain⟨a0,w0,h2⟩:=hr;grind
    ·grind [RowsIn.mono]
    ·refine⟨h.1,RoundIn.mono h.2 λe w' hr=>?_⟩
     cases e with
     | returned v=>grind
     | panicked ch=>grind
     | outgrown=>obtain⟨a0,w0,h2⟩:=hr;grind
    ·grind
    grind
   grind
theorem K6.tv{ops:Array Oper}{is js:List Nat}{Q1:Exit->St->Prop}(h:W3 P G ops is s.st Q1)(hq:∀e st,Q1 e st->e=.normal/\K6 P G L l ops js ⟨s.x,st⟩ Q):K6 P G L l ops (is++js) s Q:=λfn γ0 w0 b0 D Ds sz te γ a w he hs hd=>by
 refine wpOpsIn_append js is a w (H5 (λe a' w' hl=>?_) is a w (h ⟨none,a.defers,true⟩ γ a w hs (FxOk.free γ w)))
 obtain⟨st',γ',h1,⟨h2,h2p⟩,h3,h4⟩:=hl
 obtain⟨rfl,h5⟩:=hq e st' h4
 exact⟨rfl,h5 fn γ0 w0 b0 D Ds sz te γ' a' w' (he.step h2 h2p) h1 (hd.trans h2 h3 he.lo.2.2.2)⟩
theorem K6.step{ops:Array Oper}{i:Nat}{is:List Nat}{st':St}(h:stepG P G ops i s.st=some st')(hr:K6 P G L l ops is ⟨s.x,st'⟩ Q):K6 P G L l ops (i :: is) s Q:=
 K6.tv (is:=[i]) (js:=is) (Q1:=λe st=>e=.normal/\st=st') (W3.cons (stepG_spec h) (W3.nil ⟨rfl,rfl⟩)) (by grind)
theorem IterP.of{c:Code}{m:Nat}{args:Nat->List V}{bi:ze}{R Rp:Exit->(ze)->Prop}
  (h:∀l,YT P G L l c ⟨.normal,entry m (args l) bi⟩ (λe s=>∃ni ti b',Gst G s.st (E1 ni ti b')/\((e=.normal\/e=.ret)/\R s.x b'\/(∃ch,e=.panic ch)/\Rp e b'))):IterP P G c m args bi L R Rp:=λfn γ0 w0 b0 l D Ds sz te γ a w he hs hd=>
 wpIn_mono (h l fn γ0 w0 b0 D Ds sz te γ a w he hs (by rw[hd];exact X8.nil)) λe a' w' hl=>by
  obtain⟨s',γ',h1,h2,h3,ni,ti,b',h5,h6⟩:=hl
  obtain⟨γ2,k1,k2,k3⟩:=h5 γ' a'.tmps w' h3
  exact⟨s'.x,b',γ2,ni,ti,a'.tmps,h6,h2.step k2 k3,k1,h1.grow k2⟩
theorem IterT.of{c:Code}{m:Nat}{args:Nat->List V}{bi:ze}{R:Exit->(ze)->Prop}
  (h:∀l,YT P G L l c ⟨.normal,entry m (args l) bi⟩ (λe s=>(e=.normal\/e=.ret)/\∃ni ti b',Gst G s.st (E1 ni ti b')/\R s.x b')):IterT P G c m args bi L R:=
 IterP.of λl=>(h l).mono (by grind)
end
def Y2(P:Program)(G:zd)(kp:List Nat)(n:Nat)(c:Code)(x:Ext){ρ:Type}(g:T P G ρ)(E:ρ->Ext):Prop:=
 (x.ok,sx P G kp 100000 ρ (.mid E) g (.inl c) [] (x.D n))=(true,g.expect (.mid E))
theorem Y2.tv{P:Program}{G:zd}{kp:List Nat}{n:Nat}{c:Code}{x:Ext}{ρ:Type}{g:T P G ρ}{E:ρ->Ext}(h:Y2 P G kp n c x g E)(hm:P.follows .mixedOrders=true){r:ρ}(hr:g.run=some r)(hE:(E r).ok=true) :
  TV P G c (x.D n).st (λe s=>e=(E r).ex/\Gst G s ((E r).D n).st):=by
 simp only[Y2,zJ] at h
 have key:TV P G c (x.D n).st (N5 P (.mid E) r n):=sx_ok hm 100000 _ _ _ _ _ _ _ (extD_ok h.1) h.2 hr
 refine key.mono λe s hg=>?_
 obtain⟨g1,g2,g3,g4⟩:=hg
 grind [R3]
theorem W3.planM{P:Program}{G:zd}{ops:Array Oper}{Q:Exit->St->Prop}{p:J6}{st:St}{m:Nat}(h:∀i,i < m->O2 P G ops i (W9 p st i) (p.rs i) (p.ws i))(hq:Q .normal (W9 p st m)) :
  ∀n k,k+n=m->W3 P G ops (List.range' k n) (W9 p st k) Q
 | 0,k,hk=>by
  grind [W3.nil]
 | n+1,k,hk=>by
  rw[List.range'_succ]
  exact W3.cons (h k (by omega) _ rfl (λl _=>O0.refl _ l)) (W3.planM h hq n (k+1) (by omega))
theorem W3.rel{P:Program}{G:zd}{ops:Array Oper}{l:List Nat}{st:St}{Q Q':Exit->St->Prop}(h:W3 P G ops l st Q')(hq:∀e s,Q' e s->Rel P G Q e s):W3 P G ops l st Q:=λfx γ a w hs hd=>
 H5 (λe a' w' hl=>by
  obtain⟨st',γ',h1,h2,h3,h4⟩:=hl
  exact(hq e st' h4 ⟨fx.ro,a'.defers,fx.mx⟩ γ' a' w' h1 rfl).grow2 h2 h3) l a w (h fx γ a w hs hd)
def F6(P:Program)(G:zd)(kp:List Nat)(n id:Nat)(ops:Array Oper)(m:Nat)(x:Ext){ρ:Type}(g:T P G ρ)(E:ρ->Ext):Prop:=
 (x.ok,rg P G id ops (List.range' 0 m) g (x.D n).st [] (x.D n).sy (λg s p sy=>regEnd kp (x.D n) s p sy λd'=>sx P G kp 100 ρ (.mid E) g (.inr .normal) [] d') λ_ _ _ _ _=>.stuck 79)=(true,g.expect (.mid E))
theorem F6.tv{P:Program}{G:zd}{kp:List Nat}{n id:Nat}{ops:Array Oper}{m:Nat}{x:Ext}{ρ:Type}{g:T P G ρ}{E:ρ->Ext}(h:F6 P G kp n id ops m x g E)(hm:P.follows .mixedOrders=true){r:ρ}(hr:g.run=some r)(hE:(E r).ok=true) :
  W3 P G ops (List.range' 0 m) (x.D n).st (λe s=>e=(E r).ex/\Gst G s ((E r).D n).st):=by
 simp only[F6,zJ] at h
 have hd:=extD_ok (n:=n) h.1
 rcases rg_sound (st0:=(x.D n).st) m g (x.D n).st [] (x.D n).sy h.2 hr ⟨rfl,λj hj=>by simp at hj⟩ hd.sy with⟨g',s,p,sy',x1,x2,x3,x4,x5⟩|⟨_,_,_,_,_,_,_,x1,_⟩
 rotate_left
 ·exact absurd x1 (Z6 _ _ _)
 simp only[List.length_nil,zX] at x5
 have hs:s=W9 p (x.D n).st m:=by rw[<-x5];exact x3.1
 obtain⟨d',y1,y2,y3,y4⟩:=regEnd_spec x1 (λj=>Z6 _ g' j) hd hs x4
 have hq:Rel P G (N5 P (.mid E) r d'.n) .normal d'.st:=sx_ok hm 100 _ _ _ _ _ _ _ y2 y1 x2
 rw[y4] at hq
 have key:=W3.planM (Q:=λe s'=>e=.normal/\s'=s) (m:=m) (λi hi=>x3.2 i (by omega)) ⟨rfl,hs.symm⟩ m 0 (by omega)
 refine W3.rel key λe s' he=>?_
 obtain⟨rfl,rfl⟩:=he
 refine(hq.forget y3).mono λs2 hg=>?_
 obtain⟨g1,g2,g3,g4⟩:=hg
 have f:=R3 (G:=G) (s:=s2) hE g3 g4
 rw[show s2.n=n from g2] at f
 grind
def tOf(ts:List (Nat×V))(i:Nat):V:=match ts.find? (λp=>p.1==i) with|some p=>p.2|none=>.undef
theorem O8{x:Ext}(h:(x.bs.all λp=>decide (1000000<=p.1))=true)(n:Nat):(x.D n).st=E1 n (tOf x.ts) (ofL x.bs):=by
 have hu:(λi=>x.us.contains i || uTop i)=uTop:=funext λi=>by
  cases hu:uTop i with
  | true=>simp
  | false=>
   simp only[Bool.or_false]
   refine Bool.eq_false_iff.2 λhc=>?_
   simp only[Ext.us,wc,zG] at hc
   obtain⟨p,hp,rfl⟩:=zF.1 hc
   grind [List.all_eq_true,uTop]
 show (⟨n,tOf x.ts,ofL x.bs,λi=>x.us.contains i || uTop i⟩:St)=⟨n,tOf x.ts,ofL x.bs,uTop⟩
 rw[hu]
theorem tOf_ok{u:zf}{ts:List (Nat×V)}(h:(ts.all λp=>okV u p.2)=true)(i:Nat):okV u (tOf ts i)=true:=by
 unfold tOf
 cases hf:ts.find? (λp=>p.1==i) with
 | none=>rfl
 | some p=>grind
theorem setP_susp(n:Nat)(ts:List (Nat×V))(b:ze)(p:Nat)(c:V):setP (E1 n (tOf ts) b) [(p,c)]=E1 n (tOf ((p,c) :: ts)) b:=by
 unfold setP E1 tOf
 simp only[List.foldl,St.setT,St.mk.injEq,true_and,and_true]
 grind
theorem entry_ext{args:List V}{x:Ext}(hx:x.ts=H8 args)(hb:(x.bs.all λp=>decide (1000000<=p.1))=true)(n:Nat):(x.D n).st=entry n args (ofL x.bs):=by
 rw[O8 hb,hx]
 unfold E1 entry
 simp only[St.mk.injEq,true_and,and_true]
 exact funext λi=>argTs_find args 0 i
theorem callC_of_TV{P:Program}{G:zd}{f:FuncId}{fn:Func}{c:Code}{n:Nat}{args:List V}{ins:ze}{res:V}{outs:ze}
  (hf:P.funcs[f]?=some fn) (hb:fn.body=some c) (hn:n=max fn.ntmps args.length) (hc:A3 8 res res=res) (h:TV P G c (entry n args ins) (Done P fn.results.toList res outs)):CallC P G f args ins res outs:=
 callC_body hf hb hn λγ a w hs hd=>wpIn_mono (h ⟨none,[],true⟩ γ a w hs ⟨hd,rfl,λ_ h=>by simp at h⟩) (by grind)
theorem YT.piece{P:Program}{G:zd}{L:YL}{l:Nat}{kp:List Nat}{n:Nat}{c:Code}{x:Ext}{ρ:Type}{g:T P G ρ}{E:ρ->Ext}{y:Exit}{Q:Exit->YS->Prop}
  (h:Y2 P G kp n c x g E) (hm:P.follows .mixedOrders=true) {r:ρ} (hr:g.run=some r) (hE:(E r).ok=true) (hq:∀s,Gst G s ((E r).D n).st->Q (E r).ex ⟨y,s⟩):YT P G L l c ⟨y,(x.D n).st⟩ Q:=
 YT.tv (h.tv hm hr hE) (by grind)
def sh(b:Nat):Nat:=1000000+b
def un(b:Nat):Nat:=(b / 1000000 - 1) * 1000000+b % 1000000
theorem un_sh(b:Nat):un (sh b)=b:=by unfold un sh;omega
theorem sh_un{b:Nat}(h:1000000<=b):sh (un b)=b:=by unfold un sh;omega
theorem le_sh(b:Nat):1000000<=sh b:=by unfold sh;omega
attribute [irreducible] sh un
theorem uTop_of{b:Nat}(h:1000000<=b):uTop b=true:=by unfold uTop;grind
theorem uTop_sh(b:Nat):uTop (sh b)=true:=uTop_of (le_sh b)
mutual
theorem refsV_ren(s:Nat->Nat):∀c:V,U8 (W5 s c)=(U8 c).map s
 | .ref b o l=>rfl
 | .ptr b i o=>rfl
 | .mp b=>rfl
 | .fn f a c=>by simp only[W5,U8,wA];rw[refsL_ren s a,refsL_ren s c]
 | .agg l=>by simp only[W5,U8];exact refsL_ren s l
 | .tup l=>by simp only[W5,U8];exact refsL_ren s l
 | .int _ _=>rfl
 | .bool _=>rfl
 | .str _=>rfl
 | .nilp=>rfl
 | .nilf=>rfl
 | .yld _=>rfl
 | .nilsl=>rfl
 | .ifc _=>rfl
 | .sl _ _ _=>rfl
 | .snap _=>rfl
 | .undef=>rfl
theorem refsL_ren(s:Nat->Nat):∀l:List V,W1 (G3 s l)=(W1 l).map s
 | []=>rfl
 | c :: l=>by simp only[G3,W1,wA];rw[refsV_ren s c,refsL_ren s l]
end
mutual
theorem renV_back(s r:Nat->Nat)(h:∀b,s (r b)=b):∀c:V,W5 s (W5 r c)=c
 | .ref b o l=>by simp[W5,h]
 | .ptr b i o=>by simp[W5,h]
 | .mp b=>by simp[W5,h]
 | .fn f a c=>by simp only[W5];rw[renL_back s r h a,renL_back s r h c]
 | .agg l=>by simp only[W5];rw[renL_back s r h l]
 | .tup l=>by simp only[W5];rw[renL_back s r h l]
 | .int _ _=>rfl
 | .bool _=>rfl
 | .str _=>rfl
 | .nilp=>rfl
 | .nilf=>rfl
 | .yld _=>rfl
 | .nilsl=>rfl
 | .ifc _=>rfl
 | .sl _ _ _=>rfl
 | .snap _=>rfl
 | .undef=>rfl
theorem renL_back(s r:Nat->Nat)(h:∀b,s (r b)=b):∀l:List V,G3 s (G3 r l)=l
 | []=>rfl
 | c :: l=>by simp only[G3];rw[renV_back s r h c,renL_back s r h l]
end
theorem Blk.ren_back(s r:Nat->Nat)(h:∀b,s (r b)=b)(k:Blk):(k.ren r).ren s=k:=by
 obtain⟨z,e,rows⟩:=k
 simp only[Blk.ren,wD]
 congr 1
 have:(G3 s ∘ G3 r)=id:=funext λl=>renL_back s r h l
 simp_all
def shB(b:ze)(i:Nat):Option Blk:=if 1000000<=i then (b (un i)).map (Blk.ren sh) else none
theorem shB_sh(b:ze)(i:Nat):shB b (sh i)=(b i).map (Blk.ren sh):=by
 unfold shB
 rw[if_pos (le_sh _),un_sh]
def St.shift(st:St):St:=E1 st.n (λi=>W5 sh (st.t i)) (shB st.b)
def K0.sh:K0->K0
 | .blk b=>.blk (EV.sh b)
 | .nest b i j=>.nest (EV.sh b) i j
def Gh.shift(γ:Gh):Gh where
 loc:=λi=>if 1000000<=i then γ.loc (un i) else none
 own:=λB=>(γ.own B).map K0.sh
 lim:=γ.lim
theorem Sim.shift{G:zd}{γ:Gh}{st:St}{tmps:Array Value}{w:World}(hs:Sim G γ st tmps w):Sim G γ.shift st.shift tmps w:=by
 have loc:∀b,γ.shift.loc (sh b)=γ.loc b:=λb=>by simp only[Gh.shift];rw[if_pos (le_sh _),un_sh]
 have tr:∀b,Tr γ st.b st.u γ.shift (shB st.b) uTop sh b:=λb=>by
  refine⟨λk hk=>⟨k.ren sh,by rw[shB_sh,hk];rfl,rfl,by simp[Blk.ren],loc b⟩,(by grind [shB_sh,uTop_sh])⟩
 refine⟨hs.n,λi=>Rep.ren (γ1:=γ) (γ2:=γ.shift) (w:=w) (w':=w) (bs1:=st.b) (u1:=st.u) (bs2:=shB st.b) (u2:=uTop) (s:=sh) (λB o v h1 h2=>⟨h1,h2⟩) (λ_ _ h=>h) (hs.t i) (λb _=>tr b),λb k hk=>?_,λb k hk=>?_,hs.g,λB x hx=>?_⟩
 ·have hk':shB st.b b=some k:=hk
  unfold shB at hk'
  split at hk'
  ·rename_i hb
   obtain⟨k0,h0,rfl⟩:=zw.1 hk'
   have:=(hs.b _ _ h0).ren (γ2:=γ.shift) (bs2:=shB st.b) (u2:=uTop) (s:=sh) (loc _) (λ_=>rfl) (λB hB=>by simp only[Gh.shift,hB];rfl) (λB i j hB=>by simp only[Gh.shift,hB];rfl) (λb' _=>tr b')
   rw[sh_un hb] at this
   exact this
  ·simp at hk'
 ·have hk':shB st.b b=some k:=hk
  unfold shB at hk'
  split at hk'
  ·rename_i hb;exact uTop_of hb
  ·simp at hk'
 ·simp only[Gh.shift] at hx
  obtain⟨y,hy,_⟩:=zw.1 hx
  exact hs.o B y hy
def K0.un:K0->Option K0
 | .blk b=>if 1000000<=b then some (.blk (EV.un b)) else none
 | .nest b i j=>if 1000000<=b then some (.nest (EV.un b) i j) else none
def Gh.unshift(γ:Gh):Gh where
 loc:=λi=>γ.loc (sh i)
 own:=λB=>(γ.own B).bind K0.un
 lim:=γ.lim
structure St.known(st:St):Prop where
 t:∀i,∀b,b∈U8 (st.t i)->st.u b=true
 b:∀i k,st.b i=some k->st.u i=true/\∀b,b∈W1 k.rows.flatten->st.u b=true
theorem Sim.unshift{G:zd}{γ:Gh}{st:St}{tmps:Array Value}{w:World}(hs:Sim G γ st.shift tmps w)(hk:st.known):Sim G γ.unshift st tmps w:=by
 have tr:∀b0,st.u b0=true->Tr γ (shB st.b) uTop γ.unshift st.b st.u un (sh b0):=λb0 hu=>by
  rw[Tr,un_sh,shB_sh]
  refine⟨λk h=>?_,λh _=>⟨by simpa using h,hu⟩⟩
  obtain⟨k0,h0,rfl⟩:=zw.1 h
  exact⟨k0,h0,rfl,by simp[Blk.ren],rfl⟩
 have ownB:∀B b0,γ.own B=some (.blk (sh b0))->γ.unshift.own B=some (.blk b0):=λB b0 h=>by
  simp_all [zP,if_pos,le_sh,un_sh,Gh.unshift,K0.un]
 have ownN:∀B b0 i j,γ.own B=some (.nest (sh b0) i j)->γ.unshift.own B=some (.nest b0 i j):=λB b0 i j h=>by
  simp_all [zP,if_pos,le_sh,un_sh,Gh.unshift,K0.un]
 refine⟨hs.n,λi=>?_,λb k hb=>?_,λb k hb=>(hk.b b k hb).1,hs.g,λB x hx=>?_⟩
 ·have h0:Rep γ w (shB st.b) uTop (W5 sh (st.t i)) (tmps.getD i undef):=hs.t i
  have h1:=Rep.ren (γ1:=γ) (γ2:=γ.unshift) (w:=w) (w':=w) (bs1:=shB st.b) (u1:=uTop) (bs2:=st.b) (u2:=st.u) (s:=un) (λB o v h1 h2=>⟨h1,h2⟩) (λ_ _ h=>h) h0 (λb hb=>by
   rw[refsV_ren] at hb
   obtain⟨b0,hb0,rfl⟩:=zF.1 hb
   exact tr b0 (hk.t i b0 hb0))
  grind [renV_back,un_sh,un,sh]
 ·have hsb:shB st.b (sh b)=some (k.ren sh):=by rw[shB_sh,hb];rfl
  have h0:L4 γ w (shB st.b) uTop (sh b) (k.ren sh):=hs.b (sh b) _ hsb
  have h1:=h0.ren (γ2:=γ.unshift) (bs2:=st.b) (u2:=st.u) (s:=un) (by show γ.loc (sh (un (sh b)))=_;rw[un_sh]) (λ_=>rfl) (by grind [un_sh]) (by grind [un_sh])
   (λb' hb'=>by
    have:W1 (k.ren sh).rows.flatten=(W1 k.rows.flatten).map sh:=by
     show W1 ((k.rows.map (G3 sh)).flatten)=_
     rw[ren_flatten,refsL_ren]
    rw[this] at hb'
    obtain⟨b0,hb0,rfl⟩:=zF.1 hb'
    exact tr b0 ((hk.b b k hb).2 b0 hb0))
  grind [un_sh,Blk.ren_back,un,sh]
 ·simp only[Gh.unshift] at hx
  obtain⟨y,hy,_⟩:=zL.1 hx
  exact hs.o B y hy
theorem L6.unshift{G:zd}{fx:Fx}{γ:Gh}{st:St}{w:World}{Q:Exit->St->Prop}{e:Exit}{a:Act}{w':World}
  (h:L6 G fx γ.shift st.shift w (λe s=>∃s',s=s'.shift/\s'.u=st.u/\s'.known/\Q e s') e a w') (hsu:∀b k,st.b b=some k->st.u b=true):L6 G fx γ st w Q e a w':=by
 obtain⟨_,γ1,h1,⟨h2,h3⟩,⟨Ds,m0,m1,m2,m3⟩,s',rfl,hu,hk,hq⟩:=h
 have none1:∀B,γ1.own B=none->γ1.unshift.own B=none:=(by grind [Gh.unshift])
 refine⟨s',γ1.unshift,h1.unshift hk,⟨⟨h2.os,h2.tape,h2.output,h2.size,h2.imm,h2.lim,λB hB hn=>?_,h2.room⟩,λb hb=>?_⟩,⟨Ds,m0,m1,m2,(by grind)⟩,hq⟩
 ·obtain⟨a1,a2,a3⟩:=h2.free B hB (by grind [Gh.shift])
  exact⟨a1,none1 B a2,a3⟩
 ·obtain⟨p1,p2,p3⟩:=h3 (sh b) (by simp_all [zC,zG,le_sh,I9,sh])
  refine⟨(by grind),λh hn=>?_,λk hk'=>⟨?_,?_⟩⟩
  ·have:=p2 (uTop_sh b) (by show shB st.b (sh b)=none;rw[shB_sh,hn];rfl)
   have h0:shB s'.b (sh b)=none:=this
   simp_all [shB_sh]
  ·grind
  ·obtain⟨_,q⟩:=p3 (k.ren sh) (by show shB st.b (sh b)=_;rw[shB_sh,hk'];rfl)
   rcases q with q|⟨k',q1,q2,q3,q4⟩
   ·have h0:shB s'.b (sh b)=none:=q
    simp_all [shB_sh]
   ·have h0:shB s'.b (sh b)=some k':=q1
    rw[shB_sh] at h0
    obtain⟨k0,h00,rfl⟩:=zw.1 h0
    refine .inr ⟨k0,h00,q2,by simpa[Blk.ren] using q3,?_⟩
    have q4:γ1.loc (sh b)=γ.shift.loc (sh b):=q4
    simp only[Gh.shift] at q4
    rw[if_pos (le_sh _),un_sh] at q4
    exact q4
mutual
theorem okV_refs{u:zf}:∀c:V,(∀b,b∈U8 c->u b=true)->okV u c=true
 | .ref b o l,h=>h b (by simp[U8])
 | .ptr b i o,h=>h b (by simp[U8])
 | .mp b,h=>h b (by simp[U8])
 | .fn f a c,h=>by
  simp only[okV,zC]
  exact⟨okL_refs a (by grind [U8]),okL_refs c (by grind [U8])⟩
 | .agg l,h=>by simp only[okV];exact okL_refs l (by grind [U8])
 | .tup l,h=>by simp only[okV];exact okL_refs l (by grind [U8])
 | .int _ _,_=>rfl
 | .bool _,_=>rfl
 | .str _,_=>rfl
 | .nilp,_=>rfl
 | .nilf,_=>rfl
 | .yld _,_=>rfl
 | .nilsl,_=>rfl
 | .ifc _,_=>rfl
 | .sl _ _ _,_=>rfl
 | .snap _,_=>rfl
 | .undef,_=>rfl
theorem okL_refs{u:zf}:∀l:List V,(∀b,b∈W1 l->u b=true)->okL u l=true
 | [],_=>rfl
 | c :: l,h=>by
  simp only[okL,zC]
  exact⟨okV_refs c (by grind [W1]),okL_refs l (by grind [W1])⟩
end
theorem ofL_cons(p:Nat×Blk)(l:List (Nat×Blk))(i:Nat):ofL (p :: l) i=if p.1=i then some p.2 else ofL l i:=by
 unfold ofL
 grind
theorem shB_ofL:∀l:List (Nat×Blk),shB (ofL l)=ofL (l.map λp=>(sh p.1,p.2.ren sh))
 | []=>funext λi=>by simp_all [shB,ofL]
 | p :: l=>funext λi=>by
  have ih:=congrFun (shB_ofL l) i
  rw[zW,ofL_cons]
  unfold shB at ih ⊢
  rw[ofL_cons]
  by_cases h:sh p.1=i
  ·subst h
   rw[if_pos rfl,if_pos (le_sh _),un_sh,if_pos rfl];rfl
  ·rw[if_neg h]
   by_cases hi:1000000<=i
   ·rw[if_pos hi] at ih ⊢
    have:¬p.1=un i:=(by grind [sh_un])
    grind
   grind
theorem tOf_cons(p:Nat×V)(l:List (Nat×V))(i:Nat):tOf (p :: l) i=if p.1=i then p.2 else tOf l i:=by
 unfold tOf
 grind
theorem tOf_shift:∀l:List (Nat×V),(λi=>W5 sh (tOf l i))=tOf (l.map λp=>(p.1,W5 sh p.2))
 | []=>rfl
 | p :: l=>funext λi=>by
  have ih:=congrFun (tOf_shift l) i
  grind [tOf_cons]
theorem ext_shift(x:Ext)(n:Nat):(x.D n).st.shift=E1 n (tOf (x.ts.map λp=>(p.1,W5 sh p.2))) (ofL (x.bs.map λp=>(sh p.1,p.2.ren sh))):=by
 rw[<-tOf_shift,<-shB_ofL]
 rfl
end Go.EV
namespace Go.EV
open Go
theorem W3.eqnil{P:Program}{G:zd}{ops:Array Oper}{st:St}{Q:Exit->St->Prop}{i:Nat}{rest:List Nat}{o:Oper}{d:Nat}{t:TypeId}{x y:Operand}{b:TypeId}{own:Bool}{z:Nat}{rows:List (List V)}
  (hi:ops[i]?=some o) (hg:D7 ops st o=some true) (ho:o.op=.binOp .eql t x y b) (hd:o.dst=some d) (hdn:H7 st.n (some d)=true) (ht:P3 P t=true) (hx:st.ev G x=some (.sl own z rows)) (hy:st.ev G y=some .nilsl)
  (h1:rows=[]->W3 P G ops rest (st.put (some d) (.bool true)) Q) (h2:W3 P G ops rest (st.put (some d) (.bool false)) Q):W3 P G ops (i :: rest) st Q:=λfx γ a w hs hdf=>by
 simp only[wpOpsIn]
 rw[hi]
 simp only
 rw[if_pos (E5 hs hg)]
 have key:∀r:Bool,(execOp a.eval o).run P w=.ok (.value (.bool r)) w->W3 P G ops rest (st.put (some d) (.bool r)) Q->o.wpIn (RF fx.ro) 0 P a w (λa' w'=>wpOpsIn (RF fx.ro) 0 P ops (L6 G fx γ st w Q) rest a' w') (L6 G fx γ st w Q):=λr hr hT=>by
  have hw:∀{next:Act->World->Prop} {Q':Exit->Act->World->Prop},next (a.put o.dst (.bool r)) w->o.wp P a w next Q':=λh=>by
   unfold Oper.wp;rw[hr];exact h
  refine op_in (hw (U9 _ _ _)) (hw ?_)
  rw[hd]
  have:=hT fx γ (a.put (some d) (.bool r)) w (hs.put hdn (.data (.bool r))) (by rw[U9];exact hdf)
  exact H5 (λe a2 w2 hl=>hl.grow (st:=st) ⟨.refl γ w,Pin.refl hs.u⟩) rest _ w this
 have ev : execOp a.eval o = (do let v <- (do eqGuard .eql t x y (a.eval x) (a.eval y); binOp .eql t (a.eval x) (a.eval y)); pure (.value v)) := by simp only [execOp, ho]
 have yv:=(hs.ev hy).nilsl_inv
 obtain⟨e,hu⟩:∃e,P.underlying t=some (.slice e):=by grind [P3]
 rcases(hs.ev hx).sl_inv with⟨a0,xv,hr⟩|⟨B,o',cap,vs,xv,-,-,-,-⟩
 ·cases a0 with
  | some a0=>
   refine key false ?_ h2
   rw[ev,xv,yv,zM]
   have:=(E8 (P:=P) (w:=w) (t:=t) (x:=.slice (some a0) 0 0) (y:=.slice none 0 0) (r:=false) x y (λop=>by cases op<;>simp[eqGuard]) (λd=>by simp[Op.equalIn,zE hu]) rfl rfl).1
   rw[this];rfl
  | none=>
  refine key true ?_ (h1 hr)
  rw[ev,xv,yv,zM]
  have:=(E8 (P:=P) (w:=w) (t:=t) (x:=.slice none 0 0) (y:=.slice none 0 0) (r:=true) x y (λop=>by cases op<;>simp[eqGuard]) (λd=>by simp[Op.equalIn,zE hu]) rfl rfl).1
  rw[this];rfl
 ·refine key false ?_ h2
  rw[ev,xv,yv,zM]
  have:=(E8 (P:=P) (w:=w) (t:=t) (x:=.slice (some ⟨B,o',none⟩) rows.length cap) (y:=.slice none 0 0) (r:=false) x y (λop=>by cases op<;>simp[eqGuard]) (λd=>by simp[Op.equalIn,zE hu]) rfl rfl).1
  rw[this];rfl
theorem forget_ts{st:St}{n:Nat}{ts:List (Nat×V)}(hn:st.n=n)(_:∀b,1000000<=b->st.u b=true)(ht:∀p,p∈ts->st.t p.1=p.2/\okV uTop p.2=true):F7 st ((Ext.l .normal ts []).D n).st where
 n:=hn.symm
 t:=λi=>by
  show (match ts.find? (λp=>p.1==i) with|some p=>p.2|none=>.undef)=_\/_
  cases hf:ts.find? (λp=>p.1==i) with
  | none=>exact .inl rfl
  | some p=>
   obtain⟨h1,h2⟩:=N2 hf
   obtain⟨h3,h4⟩:=ht p h1
   subst h2
   refine .inr ⟨?_,O4 (u:=uTop) (λb hb=>?_) _ (by grind)⟩
   ·show (match ts.find? (λq=>q.1==p.1) with|some p=>p.2|none=>.undef)=_
    grind
   ·rw[D.st_u];exact okU_top (of_decide_eq_true hb)
 b:=λ_=>.inl rfl
 p:=λb hb=>by rw[D.st_u];exact okU_top (uPin_le hb)
def eqNilAt(ops:Array Oper):Option TypeId:=match ops[1]? with
 | some o=>match o.op,o.dst,o.guard with
  | .binOp .eql t (.tmp 3) (.const (.slice none 0 0)) _,some 4,none=>some t
  | _,_,_=>none
 | none=>none
theorem eqNilAt_spec{ops:Array Oper}{t:TypeId}(h:eqNilAt ops=some t):∃(o:Oper) (tb:TypeId),ops[1]?=some o/\o.op=.binOp .eql t (.tmp 3) (.const (.slice none 0 0)) tb/\o.dst=some 4/\o.guard=none:=by
 grind [Option.some.injEq,eqNilAt]
def cloneOps0:Option Code->Array Oper
 | some (.seq (.region _ o _) _)=>o
 | _=>#[]
def cloneOps1:Option Code->Array Oper
 | some (.seq _ (.seq (.seq (.region _ o _) _) _))=>o
 | _=>#[]
def O9:Option Code->Code
 | some (.seq _ (.seq (.seq _ (.cond _ c _)) _))=>c
 | _=>.skip
def X9:Option Code->Code
 | some (.seq _ (.seq _ c))=>c
 | _=>.skip
theorem clone_ok{P:Program}{G:zd}{f:FuncId}{fn:Func}{yes rest:Code}{ops0 ops1:Array Oper}{t:TypeId}{z:Nat}{α:Type}{ty:Ty α}{l:List α}{kp:List Nat}{ρ:Type}{g:T P G ρ}{r:ρ}{hx:([].all λ(p:Nat×Blk)=>!([BT.of 7 ty z ([]++l)].any λx=>x.id==p.1))=true}
  (hm:P.follows .mixedOrders=true) (hM:z < J8) (hf:P.funcs[f]?=some fn) (hb:fn.body=some (.seq (.region 0 ops0 false) (.seq (.seq (.region 1 ops1 false) (.cond (.tmp 4) yes .skip)) rest)))
  (hn:8=max fn.ntmps 1) (hr:fn.results.toList=[.tmp 2]) (z0:ops0.size=1) (z1:ops1.size=2)
  (h0:stepG P G ops0 0 (entry 8 [.sl false z (l.map ty.c)] λ_=>none)=some ((entry 8 [.sl false z (l.map ty.c)] λ_=>none).put (some 2) .nilsl))
  (h1:stepG P G ops1 0 ((entry 8 [.sl false z (l.map ty.c)] λ_=>none).put (some 2) .nilsl)=some (((entry 8 [.sl false z (l.map ty.c)] λ_=>none).put (some 2) .nilsl).put (some 3) (.sl false z (l.map ty.c))))
  (hq:eqNilAt ops1=some t) (ht:P3 P t=true)
  (kY:Y2 P G [2] 8 yes (Ext.l .normal [(2,.nilsl)] []) (.done ():T P G Unit) (λ_=>Ext.l .ret [(2,.nilsl)] []))
  (kR:Y2 P G kp 8 rest (Ext.l .normal [(0,.sl false z (l.map ty.c)),(2,.nilsl)] []) g (λ_=>Ext.of .ret [(2,.ref 7 0 ([]++l).length)] [] [BT.of 7 ty z ([]++l)] hx))
  (hE:(Ext.of .ret [(2,.ref 7 0 ([]++l).length)] [] [BT.of 7 ty z ([]++l)] hx).ok=true) (hrun:g.run=some r) :
  CallC P G f [.sl false z (l.map ty.c)] (ofL []) (.ref 7 0 ([]++l).length) (ofL [(7,⟨z,true,([]++l).map ty.c⟩)]):=by
 obtain⟨o,tb,hi,ho,hd,hg⟩:=eqNilAt_spec hq
 refine callC_of_TV (n:=8) hf hb hn (by rfl) ?_
 rw[hr]
 have e0:ofL []=(λ_=>none:ze):=rfl
 rw[e0]
 refine TV.seq (TV.region ?_)
 rw[z0]
 refine W3.cons (stepG_spec h0) (W3.nil ?_)
 show TV P G _ _ _
 refine TV.seq (TV.seq (TV.region ?_))
 rw[z1]
 refine W3.cons (stepG_spec h1) ?_
 refine W3.eqnil (rows:=l.map ty.c) (own:=false) (z:=z) hi (by unfold D7;rw[hg]) ho hd rfl ht rfl rfl (λhnil=>W3.nil ?_) (W3.nil ?_)
 ·
  have hl:l=[]:=List.map_eq_nil_iff.1 hnil
  subst hl
  show TV P G _ _ _
  refine TV.cond (t:=true) rfl ?_
  refine TV.ghost (Gst.forget (forget_ts (n:=8) (ts:=[(2,.nilsl)]) rfl (λb hb=>by simp[entry,St.put,St.setT,uTop,hb]) (λp hp=>?_))) ?_
  ·simp only[we] at hp;subst hp;exact⟨rfl,rfl⟩
  refine TV.rel (kY.tv hm (r:=()) rfl rfl) λe s he=>?_
  obtain⟨rfl,hs⟩:=he
  refine Rel.ghost hs (Rel.ghost (Gst.virtT (d:=7) (t:=2) z hM rfl rfl) (Rel.of ?_))
  show Done P _ _ _ _ _
  refine⟨.inr rfl,rfl,λb k hk=>?_⟩
  simp only[ofL,List.find?] at hk
  split at hk
  ·rename_i x hx'
   split at hx'
   ·rename_i hb'
    simp only[zp] at hx' hk
    subst hx';subst hk
    have:(7:Nat)=b:=by grind
    subst this;rfl
   ·simp at hx'
  ·simp at hk
 ·show TV P G _ _ _
  refine TV.cond (t:=false) rfl (TV.skip ?_)
  show TV P G _ _ _
  refine TV.ghost (Gst.forget (forget_ts (n:=8) (ts:=[(0,.sl false z (l.map ty.c)),(2,.nilsl)]) rfl (λb hb=>by simp[entry,St.put,St.setT,uTop,hb]) (λp hp=>?_))) ?_
  ·simp only[zT,wg,or_false] at hp
   rcases hp with rfl|rfl
   ·exact⟨rfl,rfl⟩
   ·exact⟨rfl,rfl⟩
  refine TV.rel (kR.tv hm hrun hE) λe s he=>?_
  obtain⟨rfl,hs⟩:=he
  refine Rel.ghost hs (Rel.of ?_)
  show Done P _ _ _ _ _
  refine⟨.inr rfl,rfl,λb k hk=>?_⟩
  exact hk
end Go.EV
