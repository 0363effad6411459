/- Deferred closures once more: what follows recover in its region; a closure that panics itself; blocks that are handed back. What a guide is worth, by ..; no conditions. -/
import Derived.Test.YtjdieimefebnfaaGreatDoorK6
import Derived.Test.YtjdieimefebnfaaGreatDoorK5
import Derived.KernelRfl
set_option linter.unusedVariables false
set_option linter.unusedSimpArgs false
namespace Go.EV
open Go
def Wy(P:Program)(G:ze)(f:FuncId)(args:List V)(ins:zg)(u:FrameMode)(ee:Value->Ending)(u':FrameMode)(outs:zg):Prop:=
 ∀(γ:Gh) (w:World) (as:Array Value),UH G γ w->(∀B x,γ.own B=some x->B < w.heap.size)->U4 γ w ins Qk args as->
  (∀b k,ins b=some k->Qk b=true/\D4 γ w ins Qk b k)->
  CallsDIn (RF none) 0 P f as u w λe u2 w'=>u2=u'/\∃v γ',e=ee v/\Qa γ w γ' w'/\Zr γ ins Qk γ' outs (λ_=>true)/\
   (∀b k,outs b=some k->D4 γ' w' outs (λ_=>true) b k)/\(∀B x,γ'.own B=some x->B < w'.heap.size)
theorem MS{F:Fence}{n:Nat}{P:Program}{ops:Array Oper}{l:List Nat}{o0:Oper}{id:Nat}{a:Act}{cs cs1:List Frame}{w:World}{rv:Value}{Q:Exit->Act->List Frame->World->Prop}(hF0:F.round=none)(ho:ops[0]?=some o0)(hl:List.range ops.size=0 :: l)
  (hw:Region.wanted o0 (yielded ops a.tmps)=true) (hab:∀f,o0.about P w a.eval=some f->F.fn f) (e0:(execOp a.eval o0).run P w=.ok .recover w)
  (hrec:(∃v,recoverD cs=some (v,cs1)/\rv=v)\/(recoverD cs=none/\rv=.nilIface/\cs1=cs)) (h:wpOpsIn F n P ops (λe a' w'=>Q e a' cs1 w') l (a.put o0.dst rv) w) :
  (Code.region id ops false).wpSIn F n P Q a cs w:=λb k hb hro hF hroom=>by
 have hlen:cs1.length=cs.length:=by
  grind [recoverD_length]
 obtain⟨e,a',w',hq,harr⟩:=wp_opsIn l (a.put o0.dst rv) w h b k cs1 (hro.trans hF0.symm) hF (by grind)
 refine⟨e,a',cs1,w',hlen,hq,.of_steps (.one (fenced_calm hF hroom rfl) stepR_region) ?_⟩
 rw[hl]
 have h0:(lone (b.atR a (.inRegion ops (0 :: l) :: k)) cs w).fenced P F:=fenced_oper hF hroom ho hab
 have hg:=stepGR_op (P:=P) (b:=b) (k:=k) (cs:=cs) (w:=w) (rest:=l) ho hw
 rw[hro,Oper.semAt_none] at hg
 have hfin:∀v,(b.atR a (.inRegion ops (0 :: l) :: k)).finish v=b.atR (a.put o0.dst v) (.inRegion ops l :: k):=by
  grind [Frame.finish_atR]
 have hk:(b.atR a (.inRegion ops (0 :: l) :: k)).kind=.deferred:=hb
 have htr:=tryRecover_deferred hk cs
 refine .of_steps (.one h0 (step_lone_go ?_)) harr
 rcases hrec with⟨v,h1,rfl⟩|⟨h1,rfl,rfl⟩
 ·simp_all [Frame.atR,stepG.apply]
 simp_all [Frame.atR,stepG.apply]
section
variable {P:Program} {G:ze}
def dC(t:Nat):List Oper->List Oper
 | o :: l=>{ o with op:=.move (.tmp t) } :: l
 | []=>[]
def P7(ops:Array Oper)(t:Nat):Array Oper:=⟨dC t ops.toList⟩
theorem Kp(ops:Array Oper)(t i:Nat):(P7 ops t)[i]?=if i=0 then (ops[0]?).map (λo=>{ o with op:=.move (.tmp t) }) else ops[i]?:=by
 obtain⟨l⟩:=ops
 cases l with
 | nil=>grind [P7,dC]
 | cons o l=>
  by_cases h:i=0
  ·subst h;simp[P7,dC]
  ·obtain⟨j,rfl⟩:=Nat.exists_eq_succ_of_ne_zero h
   simp[P7,dC]
theorem U6.ghost{ops:Array Oper}{l:List Nat}{st st':St}{Q:Exit->St->Prop}(g:QH G st st')(h:U6 P G ops l st' Q):U6 P G ops l st Q:=λfx γ a w hs hd=>by
 obtain⟨γ',h1,h2,h3⟩:=g γ a.tmps w hs
 exact H1 (λ_ _ _ hl=>hl.grow ⟨h2,h3⟩) l a w (h fx γ' a w h1 (hd.grow h2 hd.1))
theorem U6.qQ{ops:Array Oper}{t m:Nat}{S:St}{Q:Exit->St->Prop}{o0:Oper}(ho:ops[0]?=some o0)(hd:o0.dst=some t)(hg:o0.guard=none)
  (h:U6 P G (P7 ops t) (0 :: List.range' 1 m) S Q):U6 P G ops (List.range' 1 m) S Q:=by
 intro fx γ a w hs hx
 have h1:=h fx γ a w hs hx
 have e0:(P7 ops t)[0]?=some { o0 with op:=.move (.tmp t) }:=by rw[Kp,if_pos rfl,ho];rfl
 have hy:∀tm,yielded (P7 ops t) tm=yielded ops tm:=λtm=>funext λj=>by
  unfold yielded
  rw[Kp]
  grind
 have congr:∀(K:Exit->Act->World->Prop) (l:List Nat) (a:Act) (w:World),(∀i,i∈l->i≠0)->wpOpsIn (RF fx.ro) 0 P (P7 ops t) K l a w->wpOpsIn (RF fx.ro) 0 P ops K l a w:=by
  intro K l
  induction l with
  | nil=>exact λ_ _ _ h=>h
  | cons i l ih=>
   intro a w hl h
   simp only[wpOpsIn] at h ⊢
   rw[Kp,if_neg (hl i (by simp))] at h
   have hl':∀j,j∈l->j≠0:=(by grind)
   cases hoi:ops[i]? with
   | none=>grind
   | some o=>
    rw[hoi] at h
    simp only[hy] at h ⊢
    split at h
    ·rename_i hw
     rw[if_pos hw]
     grind [Oper.wpIn_mono]
    grind
 simp only[wpOpsIn,e0] at h1
 have hw:Region.wanted { o0 with op:=.move (.tmp t) } (yielded (P7 ops t) a.tmps)=true:=by unfold Region.wanted;rw[hg]
 rw[if_pos hw] at h1
 have e:({ o0 with op:=.move (.tmp t) }:Oper).semAt fx.ro a.eval=pure (.value (a.eval (.tmp t))):=by
  rw[Oper.semAt_eq _ _ _ (λc=>by simp)]
  rfl
 have h2:=h1.2
 rw[show (RF fx.ro).round=fx.ro from rfl,e] at h2
 have h3:wpOpsIn (RF fx.ro) 0 P (P7 ops t) (L0 G fx γ S w Q) (List.range' 1 m) (a.put o0.dst (a.eval (.tmp t))) w:=h2
 rw[hd] at h3
 have ea:a.put (some t) (a.eval (.tmp t))=a:=by
  have:a.tmps.setIfInBounds t (a.tmps.getD t undef)=a.tmps:=by
   apply Array.ext_getElem?
   intro i
   rw[Array.getElem?_setIfInBounds]
   split
   ·rename_i hi
    subst hi
    split
    ·simp_all
    grind
   ·rfl
  show ({ a with tmps:=a.tmps.setIfInBounds t (a.tmps.getD t undef) }:Act)=a
  rw[this]
 grind
theorem W5.qQ{ops:Array Oper}{t m n id:Nat}{kp:List Nat}{x:Ext}{ρ:Type}{g:T P G ρ}{E:ρ->Ext}{o0:Oper}(ho:ops[0]?=some o0)(hd:o0.dst=some t)(hg:o0.guard=none)
  (h:W5 P G kp n id (P7 ops t) (m+1) x g E) (hm:P.follows .mixedOrders=true) {r:ρ} (hr:g.run=some r) (hE:(E r).ok=true) :
  U6 P G ops (List.range' 1 m) (x.D n).st (λe s=>e=(E r).ex/\QH G s ((E r).D n).st):=
 U6.qQ ho hd hg (by have:=h.tv hm hr hE;rwa [List.range'_succ] at this)
theorem Dw{f:FuncId}{fn:Func}{ops:Array Oper}{rest:Code}{rid t1 n:Nat}{l:List Nat}{o0:Oper}{args:List V}{ins outs:zg}{u u':FrameMode}{rv:Value}{S1:St}{ee:Value->Ending}{ex:Exit->Prop}
  (hf:P.funcs[f]?=some fn) (hb:fn.body=some (.seq (.region rid ops false) rest)) (hn:n=max fn.ntmps args.length) (ho0:ops[0]?=some o0) (hl:List.range ops.size=0 :: l)
  (h0:o0.op=.call { callee:=.builtin .recover,args:=#[],argTypes:=#[] }) (h0d:o0.dst=some t1) (h0g:o0.guard=none) (ht1:t1 < n)
  (hi:HK rv=true) (hr:HV u rv u') (hres:fn.results=#[])
  (hT:U6 P G ops l ((U3 n args ins).put (some t1) (.Zw rv)) (λe s=>e=.normal/\QH G s S1))
  (hB:TV P G rest S1 (λe s=>ex e/\∃s2,QH G s s2/\∀b k,outs b=some k->s2.b b=some k))
  (hex:(ee=.returned/\∀e,ex e->e=.normal\/e=.ret)\/∃ch,ee=(λ_=>.panicked ch)/\∀e,ex e->e=.panic ch) :
  Wy P G f args ins u ee u' outs:=by
 intro γ w as hg ho ha hbl
 have hsz:as.size=args.length:=ha.1
 have hs:Qs G γ (U3 n args ins) (as++Array.replicate (fn.ntmps - as.size) undef) w:=by
  refine⟨by grind [Array.size_append,Array.size_replicate,U3],λi=>?_,λb k hk=>(hbl b k hk).2,λb k hk=>(hbl b k hk).1,hg,ho⟩
  show Qu γ w ins Qk (args.getD i .undef) _
  by_cases hi:i < args.length
  ·have e1:args.getD i .undef=args[i]:=by grind
   have e2:(as++Array.replicate (fn.ntmps - as.size) undef).getD i undef=as[i]'(by omega):=by
    simp_all [wk,Array.getElem?_append_left,we]
   rw[e1,e2]
   exact ha.2 i _ _ (by grind) (by grind)
  ·have e1:args.getD i .undef=.undef:=by grind
   rw[e1];exact .undef _
 refine⟨trivial,λc₀ cs hu hroom=>?_⟩
 let a0:Act:=⟨as++Array.replicate (fn.ntmps - as.size) undef,[]⟩
 let a1:Act:=a0.put (some t1) rv
 let b:Frame:={ (default:Frame) with fn:=f,kind:=.deferred,roundOf:=none }
 have henter:Frame.enter P f as .deferred=b.atR a0 [.code (.seq (.region rid ops false) rest)]:=by
  grind [Frame.enter,Frame.atR]
 have hs1:Qs G γ ((U3 n args ins).put (some t1) (.Zw rv)) a1.tmps w:=hs.put (dst:=some t1) (by grind [H7,U3]) (.data (.Zw rv hi))
 have e0:(execOp a0.eval o0).run P w=.ok .recover w:=by
  unfold execOp;rw[h0];rfl
 have w0:∀a:Act,Region.wanted o0 (yielded ops a.tmps)=true:=(by grind [Region.wanted])
 let c1:Frame:={ c₀ with mode:=u' }
 have hw:Code.wpSIn (RF none) 0 P (.seq (.region rid ops false) rest) (λe a' cs' w'=>cs'=c1 :: cs/\L0 G ⟨none,[],true⟩ γ ((U3 n args ins).put (some t1) (.Zw rv)) w (λe s=>ex e/\∃s2,QH G s s2/\∀b k,outs b=some k->s2.b b=some k) e a' w') a0 (c₀ :: cs) w:=by
  refine wpSIn_seq (MS (cs1:=c1 :: cs) (rv:=rv) rfl ho0 hl (w0 _) (λ_ _=>trivial) e0 ?_ ?_)
  ·rcases hr with⟨r1,r2,r3⟩|⟨v,older,r1,r2,r3⟩
   ·refine .inr ⟨by simp[recoverD,hu,r1],r2,?_⟩
    show ({ c₀ with mode:=u' }:Frame) :: cs=c₀ :: cs
    rw[r3,<-r1,<-hu]
   grind [recoverD]
  ·rw[h0d]
   refine H1 (λe a' w' hl=>?_) l a1 w (hT ⟨none,[],true⟩ γ a1 w hs1 ⟨rfl,rfl,λ_ h=>by simp at h⟩)
   obtain⟨s',γ1,q1,⟨q2,q3⟩,qd,rfl,hg1⟩:=hl
   obtain⟨γ2,q4,q5,q6⟩:=hg1 γ1 a'.tmps w' q1
   show Code.wpSIn (RF none) 0 P rest _ a' (c1 :: cs) w'
   obtain⟨Ds,d0,d1,d2,d3⟩:=qd
   refine wpSIn_of_wpIn rfl (wpIn_mono (hB ⟨none,a'.defers,true⟩ γ2 a' w' q4 (Uu.free _ _)) λe2 a2 w2 hl2=>⟨rfl,?_⟩)
   exact hl2.Ow ⟨q2.trans q5,q3.trans q6⟩ ⟨Ds,d0,d1,d2,λD hD=>⟨(d3 D hD).1,(d3 D hD).2.1,(q5.free D (by grind) (d3 D hD).2.2).2.1⟩⟩
 obtain⟨e,a',cs',w',hl,⟨rfl,hq⟩,harr⟩:=hw b [] rfl rfl trivial hroom
 rw[<-henter] at harr
 obtain⟨s0,γ0,k0,⟨g0,p0⟩,⟨Ds,_,m1,m2,m3⟩,he,s',hg,hout⟩:=hq
 obtain⟨γ',k1,g1',p1'⟩:=hg γ0 a'.tmps w' k0
 have g1:=g0.trans g1'
 have p1:=p0.trans p1'
 simp only[wz] at m1
 have ble:F0 γ' s'.b s'.u γ' outs (λ_=>true):=by
  refine⟨λ_ _=>rfl,λb _ hn=>?_,λb k hk=>⟨rfl,?_⟩⟩
  ·cases ho:outs b with
   | none=>rfl
   | some k=>grind
  ·cases ho:outs b with
   | none=>exact .inl rfl
   | some k'=>
    grind
 have fin:∀(md:FrameMode) (todo:List Item),(md=.returning/\ee=.returned)\/(∃ch,md=.panicking ch/\ee=λ_=>.panicked ch)->StepsIn (Machine.fenced P (RF none)) P (lone (Frame.enter P f as .deferred) (c₀ :: cs) w) (lone { b.atR a' todo with mode:=md } (c1 :: cs) w')->
   ∃e u2 w' fr,(u2=u'/\∃v γ',e=ee v/\Qa γ w γ' w'/\Zr γ ins Qk γ' outs (λ_=>true)/\(∀b k,outs b=some k->D4 γ' w' outs (λ_=>true) b k)/\(∀B x,γ'.own B=some x->B < w'.heap.size))/\
    ComesIn (Machine.fenced P (RF none)) P (lone (Frame.enter P f as .deferred) (c₀ :: cs) w) (lone fr ({ c₀ with mode:=u2 } :: cs) w') e/\fr.kind=.deferred/\fr.fn=f/\fr.going P w' e:=by
  intro md todo hmd hst
  have hmr:md≠.run:=by grind
  obtain⟨w2,⟨i1,i2⟩,st2⟩:=HJ (P:=P) (λw2=>Qs G γ' s' a'.tmps w2/\Qa γ w γ' w2) Ds { b.atR a' todo with mode:=md } (c1 :: cs) w' hmr m1 ⟨k1,g1⟩ m2 (λD hD=>(m3 D hD).2.1) (λD w7 hD hI hd=>
   ⟨(Y2.put hd rfl).Gq hI.1,hI.2.put hd rfl (m3 D hD).1⟩)
  have hpin:Zr γ ins Qk γ' s'.b s'.u:=p1
  obtain⟨v,hv,_⟩:=P4 (P:=P) i1 (show L2 P s' fn.results.toList=some (.Qt []) by rw[hres];rfl)
  have hblk:∀b k,outs b=some k->D4 γ' w2 outs (λ_=>true) b k:=λb k hk=>by
   rcases i1.b b k (hout b k hk) with h0|hm|⟨hM,B,o,cs,e,a1,a2,a3,a4,a5,a6,a7,a8⟩
   ·exact .inl h0
   ·exact .inr (.inl (hm.same rfl (by grind) λc v hr=>hr.mono (.refl _ _) ble))
   refine .inr (.inr ⟨hM,B,o,cs,e,a1,a2,a3,a4,a5,λi c hc=>?_,a7,a8⟩)
   obtain⟨x,b1,b2,b3,b4⟩:=a6 i c hc
   exact⟨x,b1,b2.mono (.refl _ _) ble,b3,b4⟩
  rcases hmd with⟨rfl,rfl⟩|⟨ch,rfl,rfl⟩
  ·exact⟨.returned v,u',w2,{ { b.atR a' todo with mode:=.returning } with defers:=[] },⟨rfl,v,γ',rfl,i2,hpin.trans ble.JH,hblk,i1.o⟩,StepsIn.trans hst st2,rfl,rfl,rfl,rfl,fn,hf,hv⟩
  ·exact⟨.panicked ch,u',w2,{ { b.atR a' todo with mode:=.panicking ch } with defers:=[] },⟨rfl,v,γ',rfl,i2,hpin.trans ble.JH,hblk,i1.o⟩,StepsIn.trans hst st2,rfl,rfl,rfl,rfl,fn,hf⟩
 rcases hex with⟨rfl,h⟩|⟨ch,rfl,h⟩
 ·rcases h _ he with rfl|rfl
  ·exact fin .returning [] (.inl ⟨rfl,rfl⟩) (StepsIn.trans harr (.one (RF.fenced _ _ _) (stepR_end rfl)))
  ·obtain⟨todo,hs⟩:=harr.1 rfl
   grind
 ·obtain rfl:=h _ he
  obtain⟨todo,hs⟩:=harr
  exact fin (.panicking ch) todo (.inr ⟨ch,rfl,rfl⟩) hs
def settled(u:FrameMode):Ending->FrameMode
 | .returned _=>settle u
 | .panicked ch=>raised u ch
 | .outgrown=>u
theorem Zr.Ql{γ γ1:Gh}{S S':St}(h3:Zr γ.shift S.shift.b S.shift.u γ1 S'.shift.b S'.shift.u)(hu:S'.u=S.u)(hsu:∀b k,S.b b=some k->S.u b=true):Zr γ S.b S.u γ1.Ql S'.b S'.u:=λb hb=>by
 obtain⟨p1,p2,p3⟩:=h3 (sh b) (by simp_all [zD,zC,WL,X1,sh])
 refine⟨(by grind),λh hn=>?_,λk hk'=>⟨?_,?_⟩⟩
 ·have:=p2 (OI b) (by show Zz S.b (sh b)=none;rw[P3,hn];rfl)
  have h0:Zz S'.b (sh b)=none:=this
  simp_all [P3]
 ·grind
 ·obtain⟨_,q⟩:=p3 (k.Qc sh) (by show Zz S.b (sh b)=_;rw[P3,hk'];rfl)
  rcases q with q|⟨k',q1,q2,q3,q4⟩
  ·have h0:Zz S'.b (sh b)=none:=q
   simp_all [P3]
  ·have h0:Zz S'.b (sh b)=some k':=q1
   rw[P3] at h0
   obtain⟨k0,h00,rfl⟩:=zE.1 h0
   refine .inr ⟨k0,h00,q2,by simpa[Qi.Qc] using q3,?_⟩
   have q4:γ1.loc (sh b)=γ.shift.loc (sh b):=q4
   simp only[Gh.shift] at q4
   rw[if_pos (WL _),Jv] at q4
   exact q4
theorem Dh{f g:FuncId}{fn:Func}{As:List Code}{rest:Code}{rid t n:Nat}{o0 o1:Oper}{args caps:List V}{ins insD outsD outs:zg}{S0 S1 S2 Sx:St}{ex:Exit}{u u':FrameMode}{ee EE:Value->Ending}{M:FrameMode}{res:V}
  (hf:P.funcs[f]?=some fn) (hb:fn.body=some (As.foldr Code.seq (.seq (.region rid #[o0,o1] false) rest))) (hn:n=max fn.ntmps args.length)
  (hA:mU P G (λe s=>e=.normal/\QH G s S0) As (U3 n args ins)) (hsh:QH G S0.shift S1)
  (h0:I2 P G o0 S1 (S1.put (some t) (.fn g [] caps))) (hg0:M6 #[o0,o1] S1 o0=some true)
  (h1:o1.op=.defer { callee:=.value (.tmp t),args:=#[],argTypes:=#[] }) (h1d:o1.dst=none) (hg1:M6 #[o0,o1] (S1.put (some t) (.fn g [] caps)) o1=some true)
  (hB:TV P G rest (S1.put (some t) (.fn g [] caps)) (λe s=>e=ex/\QH G s S2)) (hex:Left u ex)
  (hcap:∀c,c∈caps->∃b k,c=.ptr b 0 0/\X1 b=true/\S1.b b=some k) (ht:t < S1.n)
  (hS2:S2.b=insD/\S2.u=Qk) (hpin:(∀b k,insD b=some k->X1 b=true)/\∀b k,outsD b=some k->X1 b=true)
  {fg:Func} (hfg:P.funcs[g]?=some fg) (hfgb:fg.body.isSome=true) (hfgn:(fg.name== "runtime.NumGoroutine")=false)
  (hD:Wy P G g caps insD u ee u' outsD) (hM:∀v,settled u' (ee v)=M) (hne:∀v,ee v≠.outgrown)
  (hU:QH G ⟨S2.n,S2.t,outsD,λ_=>true⟩ Sx.shift) (hkn:Sx.known) (hu:Sx.u=S0.u) (houts:∀b k,outs b=some k->Sx.b b=some k)
  (hend:(M=.returning/\EE=.returned/\L2 P Sx fn.results.toList=some res/\∀(γ:Gh) (w:World) v,Qu γ w Sx.b Sx.u res v->Qu γ w outs (λ_=>true) res v)\/∃ch,M=.panicking ch/\EE=(λ_=>.panicked ch)/\res=.undef) :
  Wz P G f args ins EE res outs:=by
 intro γ w as hg ho ha hbl
 have hsz:as.size=args.length:=ha.1
 have hs:Qs G γ (U3 n args ins) (as++Array.replicate (fn.ntmps - as.size) undef) w:=by
  refine⟨by grind [Array.size_append,Array.size_replicate,U3],λi=>?_,λb k hk=>(hbl b k hk).2,λb k hk=>(hbl b k hk).1,hg,ho⟩
  show Qu γ w ins Qk (args.getD i .undef) _
  by_cases hi:i < args.length
  ·have e1:args.getD i .undef=args[i]:=by grind
   have e2:(as++Array.replicate (fn.ntmps - as.size) undef).getD i undef=as[i]'(by omega):=by
    simp_all [wk,Array.getElem?_append_left,we]
   rw[e1,e2]
   exact ha.2 i _ _ (by grind) (by grind)
  ·have e1:args.getD i .undef=.undef:=by grind
   rw[e1];exact .undef _
 refine(callsIn_wide (n:=0)).1 (callsIn_of_wp_marks hf hb trivial ?_)
 refine AX As _ hA ⟨none,[],true⟩ γ ⟨_,[]⟩ w hs ⟨rfl,rfl,λ_ h=>by simp at h⟩ λe a1 w1 hl=>⟨λhe=>?_,λhe=>?_⟩
 rotate_left
 ·obtain⟨_,_,_,_,_,q,_⟩:=hl;grind
 subst he
 obtain⟨s1,γ0,k1,⟨g1,p1⟩,⟨Ds,_,m1,m2,m3⟩,_,gs⟩:=hl
 obtain⟨γ1,k2,g2,p2⟩:=gs γ0 a1.tmps w1 k1
 obtain⟨γ1',k2',g2',p2'⟩:=hsh γ1.shift a1.tmps w1 k2.shift
 simp only[wz] at m1
 refine wpIn_seq (wpIn_region ?_)
 have hr:List.range (#[o0,o1]:Array Oper).size=[0,1]:=rfl
 rw[hr]
 simp only[wpOpsIn,show (#[o0,o1]:Array Oper)[0]?=some o0 from rfl,show (#[o0,o1]:Array Oper)[1]?=some o1 from rfl]
 rw[if_pos (W3 k2' hg0)]
 refine IN (h0 ⟨none,a1.defers,false⟩ γ1' a1 w1 k2' rfl _ _ (by grind)) (h0 ⟨none,a1.defers,true⟩ γ1' a1 w1 k2' rfl _ _ λa2 w2 γ2 k3 g3 p3 d3=>?_)
 rw[if_pos (W3 k3 hg1)]
 have hv:Qu γ2 w2 (S1.put (some t) (.fn g [] caps)).b (S1.put (some t) (.fn g [] caps)).u (.fn g [] caps) (a2.eval (.tmp t)):=by
  have:=k3.t t
  have e:(S1.put (some t) (.fn g [] caps)).t t=.fn g [] caps:=by simp[St.put,St.QG]
  rw[e] at this;exact this
 obtain⟨fs,cv,hval,hf0,hcl,_,hcv⟩:=hv.HE
 have hfs:fs=[]:=(by grind)
 subst hfs
 let d:Deferred:={ target:=.fn (.func g) cv.toArray,args:=#[] }
 refine⟨λ_ _=>trivial,?_⟩
 have hrun:(execOp a2.eval o1).run P w2=.ok (.defer d) w2:=by
  grind [Sem.run_bind,Sem.run_pure,Result.andThen_ok,execOp,resolve,pure,Deferred.ofValue]
 show o1.uponIn (RF none) 0 P a2 _ _ ((o1.semAt none a2.eval).run P w2)
 rw[Oper.semAt_none,hrun]
 show rest.wpIn (RF none) 0 P _ ({ a2 with defers:=d :: a2.defers }.put o1.dst undef) w2
 rw[h1d]
 show rest.wpIn (RF none) 0 P _ ({ a2 with defers:=d :: a2.defers }:Act) w2
 refine wpIn_mono (hB ⟨none,d :: a2.defers,true⟩ γ2 { a2 with defers:=d :: a2.defers } w2 k3 (Uu.free _ _)) λe a4 w4 hl=>?_
 obtain⟨s4,γ3,k4,⟨g4,p4⟩,⟨Ds4,_,n1,n2,n3⟩,rfl,gs4⟩:=hl
 obtain⟨γ4,k5,g5,p5⟩:=gs4 γ3 a4.tmps w4 k4
 have key:LeavesInM (RF none) 0 P fn a4.tmps (λe w'=>∃v γ',e=EE v/\Qa γ w γ' w'/\Zr γ ins Qk γ' outs (λ_=>true)/\Qu γ' w' outs (λ_=>true) res v/\
   (∀b k,outs b=some k->D4 γ' w' outs (λ_=>true) b k)/\(∀B x,γ'.own B=some x->B < w'.heap.size)) a4.defers u w4:=by
  rw[n1]
  have hur:u≠.run:=by
   rcases hex with⟨_,h⟩|⟨_,h⟩|⟨_,_,h⟩<;>rw[h]<;>simp
  refine L8 hur (λw5=>Qs G γ4 S2 a4.tmps w5/\Qa γ2 w2 γ4 w5) (λw5 hI=>?_) Ds4 w4 ⟨k5,g4.trans g5⟩ n2 (λD hD=>(n3 D hD).2.1) λD w5 hD hI hd=>
   ⟨(Y2.put hd rfl).Gq hI.1,hI.2.put hd rfl (n3 D hD).1⟩
  obtain⟨i1,i2⟩:=hI
  have hinv:(invoke d.target d.args).run P w5=.ok (.enter g cv.toArray) w5:=by
   show (callFunc g (#[]++cv.toArray)).run P w5=_
   have hname':¬fg.name= "runtime.NumGoroutine":=by grind
   have hbody':¬fg.body=none:=(by grind)
   simp_all [callFunc]
  refine⟨hur,.inr ⟨(by grind [RF,Fence.wide]),.func g,cv.toArray,g,cv.toArray,rfl,hinv,λ_ _=>trivial,?_⟩⟩
  have ptot:=p4.trans p5
  rw[hS2.1,hS2.2] at ptot
  have hcells:U4 γ4 w5 insD Qk caps cv.toArray:=⟨by grind,λi c v hc hvv=>by
   obtain⟨b,k,rfl,c2,c3⟩:=hcap c (zQ hc)
   have hrep:=hcv i _ v hc (by simpa using hvv)
   exact(Qu.SU (w':=w5) hrep (k:=k) c3 c2 ptot)⟩
  have hblk:∀b k,insD b=some k->Qk b=true/\D4 γ4 w5 insD Qk b k:=λb k hk=>by
   refine⟨Hu (hpin.1 b k hk),?_⟩
   have:=i1.b b k (by grind)
   grind
  refine(hD γ4 w5 cv.toArray i1.g i1.o hcells hblk).mono λe u2 w6 hR=>?_
  obtain⟨rfl,v6,γ5,rfl,g6,p6,b6,o6⟩:=hR
  have ble:=Dm p6 hpin.1 hpin.2
  have hsim:Qs G γ5 ⟨S2.n,S2.t,outsD,λ_=>true⟩ a4.tmps w6:=by
   refine⟨i1.n,λi=>?_,λb k hk=>b6 b k hk,λ_ _ _=>rfl,i1.g.grow g6,o6⟩
   have:=i1.t i
   rw[hS2.1,hS2.2] at this
   exact this.mono g6 ble
  obtain⟨γ6,j1,j2,j3⟩:=hU γ5 a4.tmps w6 hsim
  have gall:Qa γ0 w1 γ6.Ql w6:=g2.trans (g2'.trans (g3.trans (i2.trans (g6.trans j2)))).Ql
  have pS:Zr γ1.shift S0.shift.b S0.shift.u γ6 Sx.shift.b Sx.shift.u:=by
   have q1:Zr γ2 (S1.put (some t) (.fn g [] caps)).b (S1.put (some t) (.fn g [] caps)).u γ4 S2.b S2.u:=p4.trans p5
   rw[hS2.1,hS2.2] at q1
   exact p2'.trans (p3.trans (q1.trans (p6.trans j3)))
  have pall:Zr γ ins Qk γ6.Ql Sx.b Sx.u:=p1.trans (p2.trans (pS.Ql hu λb k hk=>k2.u b k hk))
  have hs6:Qs G γ6.Ql Sx a4.tmps w6:=j1.Ql hkn
  have ble2:F0 γ6.Ql Sx.b Sx.u γ6.Ql outs (λ_=>true):=by
   refine⟨λ_ _=>rfl,λb _ hn=>?_,λb k hk=>⟨rfl,?_⟩⟩
   ·cases ho:outs b with
    | none=>rfl
    | some k=>grind
   ·cases ho:outs b with
    | none=>exact .inl rfl
    | some k'=>
     grind
  have goOn:LeavesInM (RF none) 0 P fn a4.tmps (λe w'=>∃v γ',e=EE v/\Qa γ w γ' w'/\Zr γ ins Qk γ' outs (λ_=>true)/\Qu γ' w' outs (λ_=>true) res v/\
    (∀b k,outs b=some k->D4 γ' w' outs (λ_=>true) b k)/\(∀B x,γ'.own B=some x->B < w'.heap.size)) a2.defers M w6:=by
   rw[show a2.defers=Ds.map ZP++[] by rw[d3.trans m1];simp]
   have hMr:M≠.run:=by rcases hend with⟨h,_⟩|⟨_,h,_⟩<;>rw[h]<;>simp
   refine L8 hMr (λw7=>Qs G γ6.Ql Sx a4.tmps w7/\Qa γ w γ6.Ql w7) (λw7 hI=>?_) Ds w6 ⟨hs6,g1.trans gall⟩ m2 (λD hD=>?_) λD w7 hD hI hd=>
    ⟨(Y2.put hd rfl).Gq hI.1,hI.2.put hd rfl (m3 D hD).1⟩
   ·obtain⟨j1,j2⟩:=hI
    have hblk:∀b k,outs b=some k->D4 γ6.Ql w7 outs (λ_=>true) b k:=λb k hk=>by
     rcases j1.b b k (houts b k hk) with h0|hm|⟨hM,B,o,cs,e,a1,a2,a3,a4,a5,a6,a7,a8⟩
     ·exact .inl h0
     ·exact .inr (.inl (hm.same rfl (λB _ hB=>⟨hB,rfl⟩) λc v hr=>hr.mono (.refl _ _) ble2))
     refine .inr (.inr ⟨hM,B,o,cs,e,a1,a2,a3,a4,a5,λi c hc=>?_,a7,a8⟩)
     obtain⟨x,b1,b2,b3,b4⟩:=a6 i c hc
     exact⟨x,b1,b2.mono (.refl _ _) ble2,b3,b4⟩
    rcases hend with⟨rfl,rfl,hres,hflat⟩|⟨ch,rfl,rfl,rfl⟩
    ·obtain⟨v,hv,hrep⟩:=P4 (P:=P) j1 hres
     exact⟨v,hv,v,γ6.Ql,rfl,j2,pall.trans ble2.JH,hflat _ _ _ hrep,hblk,j1.o⟩
    ·exact⟨undef,γ6.Ql,rfl,j2,pall.trans ble2.JH,.undef _,hblk,j1.o⟩
   ·obtain⟨_,q1,q2⟩:=m3 D hD
    exact(gall.free D (wo.1 q1).1 q2).1.trans q1
  have hm':=hM v6
  have hne':=hne v6
  cases hev:ee v6 with
  | returned v=>rw[hev] at hm';show LeavesInM (RF none) 0 P fn a4.tmps _ a2.defers (settle u2) w6;rw[show settle u2=M from hm'];exact goOn
  | panicked ch=>rw[hev] at hm';show LeavesInM (RF none) 0 P fn a4.tmps _ a2.defers (raised u2 ch) w6;rw[show raised u2 ch=M from hm'];exact goOn
  | outgrown=>exact absurd hev hne'
 rcases hex with⟨rfl,h⟩|⟨rfl,h⟩|⟨ch,rfl,h⟩
 ·subst h;exact key
 ·subst h;exact key
 ·subst h;exact key
end
theorem gO{us:List Nat}(h:us.all Qk=true):(λb=>us.contains b || Qk b)=Qk:=(by grind)
theorem mJ{x:Ext}(n:Nat)(h:x.us.all Qk=true):(x.D n).st=M8 n (Zm x.ts) (Qe x.bs):=by
 show (⟨n,Zm x.ts,Qe x.bs,λb=>x.us.contains b || Qk b⟩:St)=_
 rw[gO h];rfl
def Ok{P:Program}{G:ze}{ρ:Type}(g:T P G ρ)(Q:ρ->Prop):Prop:=∃r,g.run=some r/\Q r
def Qz{P:Program}{G:ze}{ρ:Type}(s:Spec P G ρ)(Q:ρ->Prop):Prop:=∃r,s.o=some r/\Q r
section
variable {P:Program} {G:ze} {ρ:Type} {Q:ρ->Prop}
theorem Qz.mono{s:Spec P G ρ}{R:ρ->Prop}(h:Qz s R)(hq:∀r,R r->Q r):Qz s Q:=let ⟨r,h1,h2⟩:=h;⟨r,h1,hq r h2⟩
theorem Qz.o{s:Spec P G ρ}{r:ρ}(h:s.o=some r):Qz s (λx=>x=r):=⟨r,h,rfl⟩
theorem Qz.eq{s:Spec P G ρ}{r:ρ}(h:Qz s (λx=>x=r)):s.o=some r:=by obtain⟨x,h1,rfl⟩:=h;exact h1
theorem Ok.d{r:ρ}(h:Q r):Ok (.done r:T P G ρ) Q:=⟨r,rfl,h⟩
theorem Ok.e{a:Nat}{c:Bool}{x y:T P G ρ}(h1:c=true->Ok x Q)(h2:c=false->Ok y Q):Ok (.br a c x y) Q:=by
 cases c with
 | true=>obtain⟨r,e,hq⟩:=h1 rfl;exact⟨r,e,hq⟩
 | false=>obtain⟨r,e,hq⟩:=h2 rfl;exact⟨r,e,hq⟩
theorem Ok.tt{k:T P G ρ}(h:Ok k Q):Ok (.tt k) Q:=h
theorem Ok.ff{k:T P G ρ}(h:Ok k Q):Ok (.ff k) Q:=h
theorem Ok.re{a:Nat}{w:Yo}{k:T P G ρ}(h:Ok k Q):Ok (.re a w k) Q:=h
theorem Ok.g{a:Nat}{w:GhW}{k:T P G ρ}(h:Ok k Q):Ok (.gh a w k) Q:=h
theorem Ok.fact{p:Prop}{i:Decidable p}{k:p->T P G ρ}(hp:p)(h:Ok (k hp) Q):Ok (.fact p i k) Q:=by
 obtain⟨r,e,hq⟩:=h
 refine⟨r,?_,hq⟩
 cases i with
 | isTrue _=>exact e
 | isFalse hn=>grind
theorem Ok.UX{a:Nat}{k:T P G ρ}(h:Ok k Q):Ok (.UX a k) Q:=h
theorem Ok.k{a:Nat}{c:Bool}{k:T P G ρ}(hc:c=true)(h:Ok k Q):Ok (.Qd a c k) Q:=by
 subst hc;obtain⟨r,e,hq⟩:=h;exact⟨r,e,hq⟩
theorem Ok.r{α:Type}{a:Nat}{ty:Ty α}{l:List α}{j:Nat}{c:Bool}{k:α->T P G ρ}{x:α}(hc:c=true)(hx:l[j]?=some x)(h:Ok (k x) Q):Ok (.row a ty l j c k) Q:=by
 subst hc;obtain⟨r,e,hq⟩:=h
 exact⟨r,by simp_all [cond_true,T.run],hq⟩
theorem Ok.app{α:Type}{a:Nat}{ty:Ty α}{l x:List α}{bytes:Nat}{fl:Bool}{hf:fl=true->∀y,ty.c y=ty.d y}{k:T P G ρ}(hn:(l.length+x.length) * bytes<=140737488355328)(h:Ok k Q):Ok (.app a ty l x bytes fl hf k) Q:=by
 obtain⟨r,e,hq⟩:=h
 exact⟨r,by simp_all [zR,cond_true,T.run],hq⟩
theorem Ok.c{α:Type}{a:Nat}{s:Spec P G α}{Li Lo:List (Nat×Nat)}{k:α->T P G ρ}{R:α->Prop}(hs:Qz s R)(h:∀r,R r->Ok (k r) Q):Ok (.call a s Li Lo k) Q:=by
 obtain⟨x,e1,hr⟩:=hs
 obtain⟨r,e,hq⟩:=h x hr
 exact⟨r,by grind [T.run],hq⟩
theorem Ok.v{α:Type}{a:Nat}{s:Spec P G α}{vs:List QE}{k:α->T P G ρ}{R:α->Prop}(hs:Qz s R)(h:∀r,R r->Ok (k r) Q):Ok (.view a s vs k) Q:=by
 obtain⟨x,e1,hr⟩:=hs
 obtain⟨r,e,hq⟩:=h x hr
 exact⟨r,by grind [T.run],hq⟩
theorem Ok.Qo{α β:Type}{a:Nat}{s:O5 P G α β}{Li Lo:List (Nat×Nat)}{k:α->T P G ρ}{k2:β->T P G ρ}{x:α⊕β}(hs:s.o=some x)(h:∀r,x=.inl r->Ok (k r) Q)(h2:∀r,x=.inr r->Ok (k2 r) Q):Ok (.Qo a s Li Lo k k2) Q:=by
 cases x with
 | inl x=>obtain⟨r,e,hq⟩:=h x rfl;exact⟨r,by grind [T.run],hq⟩
 | inr x=>obtain⟨r,e,hq⟩:=h2 x rfl;exact⟨r,by grind [T.run],hq⟩
theorem Ok.oS{ε ζ:Type}{S:Sub P G (ε⊕ζ)}{k:ε->T P G ρ}{k2:ζ->T P G ρ}{R:ε⊕ζ->Prop}{x:ε⊕ζ}(hr:S.o=some x)(hx:R x)(h:∀r,R (.inl r)->Ok (k r) Q)(h2:∀r,R (.inr r)->Ok (k2 r) Q):Ok (.Ez S k k2) Q:=by
 rcases x with r|r
 ·obtain⟨y,h1,h3⟩:=h r hx
  exact⟨y,by grind [T.run],h3⟩
 ·obtain⟨y,h1,h3⟩:=h2 r hx
  exact⟨y,by grind [T.run],h3⟩
theorem Ok.AB{ε:Type}{S:Sub P G ε}{k:ε->T P G ρ}{r:ε}(hr:S.o=some r)(h:Ok (k r) Q):Ok (.sub S k) Q:=by
 obtain⟨x,e,hq⟩:=h
 exact⟨x,by grind [T.run],hq⟩
theorem Ok.n{ε:Type}{id:Nat}{ts:List Nat}{first:T P G ε}{E:ε->List V}{k:ε->T P G ρ}{R:ε->Prop}(hf:Ok first R)(h:∀e,R e->Ok (k e) Q):Ok (.QD id ts first E k) Q:=by
 obtain⟨x,e1,hr⟩:=hf
 obtain⟨r,e,hq⟩:=h x hr
 exact⟨r,by grind [T.run],hq⟩
theorem Ok.b{ε:Type}{j:Nat}{first:T P G ε}{E:ε->Ext}{k:ε->T P G ρ}{R:ε->Prop}(hf:Ok first R)(h:∀e,R e->Ok (k e) Q):Ok (.bind j first E k) Q:=by
 obtain⟨x,e1,hr⟩:=hf
 obtain⟨r,e,hq⟩:=h x hr
 exact⟨r,by grind [T.run],hq⟩
theorem Ok.p{ε ζ:Type}{j:Nat}{first:T P G (ε⊕ζ)}{E:ε->Ext}{E2:ζ->Ext}{k:ε->T P G ρ}{k2:ζ->T P G ρ}{R:ε⊕ζ->Prop}(hf:Ok first R)(h:∀e,R (.inl e)->Ok (k e) Q)(h2:∀e,R (.inr e)->Ok (k2 e) Q):Ok (.QM j first E E2 k k2) Q:=by
 obtain⟨x,e1,hr⟩:=hf
 cases x with
 | inl x=>obtain⟨r,e,hq⟩:=h x hr;exact⟨r,by grind [T.run],hq⟩
 | inr x=>obtain⟨r,e,hq⟩:=h2 x hr;exact⟨r,by grind [T.run],hq⟩
theorem Ok.Yi{a:Nat}{n:Int}{vs:List Int}{k:Int->T P G ρ}(hn:vs.contains n=true)(h:Ok (k n) Q):Ok (.Yi a n vs k) Q:=by
 obtain⟨r,e,hq⟩:=h
 exact⟨r,by simp_all [cond_true,T.run],hq⟩
theorem Ag{σ ε:Type}{f:σ->Option (σ⊕ε)}(I:σ->Prop)(μ:σ->Nat)(R:ε->Prop)
  (step:∀x,I x->∃r,f x=some r/\(match r with|.inl y=>I y/\μ y < μ x|.inr e=>R e)):∀n x,I x->μ x < n->∃e,X7 f n x=some e/\R e
 | 0,x,_,h=>(by grind)
 | n+1,x,hx,h=>by
  have e1:X7 f (n+1) x=(match f x with|none=>none|some (.inl y)=>X7 f n y|some (.inr e)=>some e):=rfl
  rw[e1]
  obtain⟨r,hr,hq⟩:=step x hx
  rw[hr]
  cases r with
  | inl y=>exact Ag I μ R step n y hq.1 (by grind)
  | inr e=>grind
def Rnd{σ ε:Type}(I:σ->Prop)(μ:σ->Nat)(m:Nat)(R:ε->Prop):σ⊕ε->Prop
 | .inl y=>I y/\μ y < m
 | .inr e=>R e
theorem Ok.lp{σ ε:Type}{S:σ->Ext}{body:σ->T P G (σ⊕ε)}{x:σ}{R:ε->Prop}(I:σ->Prop)(μ:σ->Nat)(hx:I x)(hm:μ x < ZN)(step:∀y,I y->Ok (body y) (Rnd I μ (μ y) R)):Ok (.lp S body x) R:=by
 refine Ag I μ R (λy hy=>?_) ZN x hx hm
 obtain⟨r,h1,h2⟩:=step y hy
 refine⟨r,h1,?_⟩
 cases r<;>exact h2
end
theorem Qz.fn{P:Program}{G:ze}{kp:List Nat}{f:FuncId}{fn:Func}{args:List V}{ρ:Type}{g:T P G ρ}{res:ρ->V}{hm:P.follows .mixedOrders=true}{hf:P.funcs[f]?=some fn}{k:mR P G kp fn args g res}{Q:ρ->Prop}(h:Ok g Q):Qz (.ofFn f hm hf k) Q:=h
abbrev Zj:=BitVec 32
def iv(b:Zj):Int:=(b.toNat:Int)
theorem V4(b:Zj):0<=iv b/\iv b < 4294967296:=by unfold iv;omega
theorem Of(b:Zj):BitVec.ofInt 32 (iv b)=b:=by grind [iv]
theorem Se(n:Int):IntKind.u32.wrap n=n % 4294967296:=IntKind.wrap_u32 n
theorem OM(b:Zj):IntKind.u32.wrap (iv b)=iv b:=by rw[Se];have:=V4 b;omega
theorem ivN(n:Nat):iv (BitVec.ofNat 32 n)=(n:Int) % 4294967296:=by grind [BitVec.toNat_ofNat,iv]
theorem Ru(a b:Zj):O2 .u32 (iv a) (iv b)=iv (a ^^^ b):=by
 show IntKind.u32.wrap ((BitVec.ofInt 32 (iv a) ^^^ BitVec.ofInt 32 (iv b)).toNat:Int)=_
 rw[Of,Of];exact OM _
theorem vC(a b:Zj):U0 .u32 (iv a) (iv b)=iv (a &&& b):=by
 show IntKind.u32.wrap ((BitVec.ofInt 32 (iv a) &&& BitVec.ofInt 32 (iv b)).toNat:Int)=_
 rw[Of,Of];exact OM _
theorem SM(a b:Zj):Zn .u32 (iv a) (iv b)=iv (a ||| b):=by
 show IntKind.u32.wrap ((BitVec.ofInt 32 (iv a) ||| BitVec.ofInt 32 (iv b)).toNat:Int)=_
 rw[Of,Of];exact OM _
theorem bA(a:Zj):O2 .u32 4294967295 (iv a)=iv (~~~a):=by
 have:(4294967295:Int)=iv (BitVec.allOnes 32):=by decide
 rw[this,Ru,BitVec.allOnes_xor]
theorem Su(a b:Zj):I6 (iv a+iv b)=iv (a+b):=by
 show IntKind.u32.wrap _=_
 grind [Se,iv]
theorem RQ(a:Zj)(k:Nat)(hk:k<=32):Z4 .u32 (iv a) (k:Int)=iv (a >>> k):=by
 show (iv a).fdiv (2 ^ (min (k:Int).toNat 32))=_
 grind [Int.toNat_natCast,Nat.min_eq_left,Int.fdiv_eq_ediv_of_nonneg,Int.pow_nonneg,BitVec.toNat_ushiftRight,Nat.shiftRight_eq_div_pow,iv]
theorem ON(a:Zj)(k:Nat)(hk:k<=32):M3 .u32 (iv a) (k:Int)=iv (a <<< k):=by
 show IntKind.u32.wrap (iv a * 2 ^ (min (k:Int).toNat 32))=_
 grind [Int.toNat_natCast,Nat.min_eq_left,Se,BitVec.toNat_shiftLeft,Nat.shiftLeft_eq,iv]
theorem sQ(a:Zj)(k:Nat)(h0:0 < k)(hk:k < 32):Zn .u32 (M3 .u32 (iv a) ((32 - k:Nat):Int)) (Z4 .u32 (iv a) (k:Int))=iv (a.rotateRight k):=by
 grind [ON,RQ,SM,BitVec.rotateRight_def,Nat.mod_eq_of_lt,BitVec.or_comm]
theorem Xx(g:zh)(k:Nat):FI (λi=>decide (i < k)&&g i) k (g k)=λi=>decide (i < k+1)&&g i:=by
 funext i
 unfold FI
 grind
theorem Qq1(g:zh):(λ_=>false:Nat->Bool)=λi=>decide (i < 0)&&g i:=by funext i;simp
theorem Aw(b:Zj):(λi=>decide (i < 32)&&b.getMsbD i)=b.getMsbD:=by
 grind
theorem Qq2{g:zh}(b:Zj)(h:∀i,i < 32->g i=b.getMsbD i):(λi=>decide (i < 32)&&g i)=b.getMsbD:=by
 grind
def Sa(l:List Zj)(i:Nat):Zj:=(l[i]?).getD 0
def sg0(x:Zj):Zj:=x.rotateRight 7 ^^^ x.rotateRight 18 ^^^ x >>> 3
def sg1(x:Zj):Zj:=x.rotateRight 17 ^^^ x.rotateRight 19 ^^^ x >>> 10
def bg0(x:Zj):Zj:=x.rotateRight 2 ^^^ x.rotateRight 13 ^^^ x.rotateRight 22
def bg1(x:Zj):Zj:=x.rotateRight 6 ^^^ x.rotateRight 11 ^^^ x.rotateRight 25
def nxt(l:List Zj)(k:Nat):Zj:=Sa l (k - 16)+Sa l (k - 7)+sg0 (Sa l (k - 15))+sg1 (Sa l (k - 2))
def K6(b:Nat->Zj):Nat->List Zj
 | 0=>[]
 | k+1=>K6 b k++[if k < 16 then b k else nxt (K6 b k) k]
structure V8 where
 a:Zj
 b:Zj
 c:Zj
 d:Zj
 e:Zj
 f:Zj
 g:Zj
 h:Zj
def Qzk(v:V8)(k w:Zj):Zj:=v.h+bg1 v.e+((v.e &&& v.f) ^^^ (~~~v.e &&& v.g))+k+w
def Qwv(v:V8):Zj:=bg0 v.a+((v.a &&& v.b) ^^^ (v.a &&& v.c) ^^^ (v.b &&& v.c))
def rd(v:V8)(k w:Zj):V8:=⟨Qzk v k w+Qwv v,v.a,v.b,v.c,v.d+Qzk v k w,v.e,v.f,v.g⟩
def Fc(K W:List Zj)(v:V8):Nat->V8
 | 0=>v
 | k+1=>rd (Fc K W v k) (Sa K k) (Sa W k)
def V8.add(v u:V8):V8:=⟨v.a+u.a,v.b+u.b,v.c+u.c,v.d+u.d,v.e+u.e,v.f+u.f,v.g+u.g,v.h+u.h⟩
def iS(K:List Zj)(b:Nat->Zj)(v:V8):V8:=v.add (Fc K (K6 b 64) v 64)
theorem Ww(b:Nat->Zj):∀k,(K6 b k).length=k
 | 0=>rfl
 | k+1=>by rw[K6,wD,Ww b k];rfl
theorem Ba{l:List Int}{s:List Zj}{k i:Nat}{x:Int}(h:l.take k=s.map iv)(hi:i < k)(hx:l[i]?=some x):x=iv (Sa s i):=by
 have e:(l.take k)[i]?=some x:=by grind
 rw[h,zX] at e
 obtain⟨y,h1,rfl⟩:=zE.1 e
 rw[Sa,h1];rfl
theorem FG{l:List Int}{s:List Zj}{k:Nat}{w:Zj}(h:l.take k=s.map iv)(hk:k < l.length):(l.set k (iv w)).take (k+1)=(s++[w]).map iv:=by
 rw[List.take_add_one,List.take_set_of_le (zI k),h,List.getElem?_set_self hk,wE];rfl
end Go.EV
