/- Part X7. -/
import Derived.Test.YtjdieimefebnfaaGreatDoorX6
set_option linter.all false
namespace Go.EV
open Go
variable {P:Program} {G:zi}
def Yk(ops:Array Oper)(i:Nat):Option Nat:=(ops[i]?).bind (·.dst)
def Gs(ops:Array Oper)(i k:Nat):Bool:=match ops[i]? with
 | some o=>o.after.any λe=>Region.binds .any e&&e.on==k
 | none=>false
def WZ(ops:Array Oper)(i t:Nat):Bool:=(List.range ops.size).all λk=>Yk ops k != some t || Gs ops i k
def HL(ops:Array Oper)(D:zl)(t:Nat):Bool:=(List.range ops.size).any λk=>D k&&Yk ops k==some t
theorem YG{ops:Array Oper}{i k:Nat}{D:zl}(h:Gs ops i k=true)(hd:∀o,ops[i]?=some o->∀e,e∈o.after->Region.binds .any e=true->D e.on=true):D k=true:=by
 unfold Gs at h;grind
def EH(P:Program)(ops:Array Oper)(SF:St)(m mk z:Nat)(mt kt:TypeId)(ins:List (Nat×List V×List V))(kl:List V)(q:List V->Bool)(x:Nat×List V×List V):Prop:=
 (∃(o:Oper) (om oi ov:Nat),ops[x.1]?=some o/\o.op=.insert mt (.tmp om) (.tmp oi) (.tmp ov)/\o.dst=none/\SF.t om=.mp m/\SF.t oi=I4 (M6 P kt) x.2.1/\SF.t ov=I4 (GP z) x.2.2/\
  WZ ops x.1 om=true/\WZ ops x.1 oi=true/\WZ ops x.1 ov=true/\Gs ops x.1 mk=true/\x.1 < ops.size)/\(∀c,c∈x.2.1++x.2.2->c.Zq=true)/\x.2.1.length=Xi z/\x.2.2.length=mvn z/\
  (R5 P kt x.2.1 x.2.1).isSome=true/\(∀y,y∈ins->y.1≠x.1->R5 P kt x.2.1 y.2.1=some false)/\R5 P kt kl x.2.1=some (q x.2.1)
theorem EH.of{P:Program}{ops:Array Oper}{SF:St}{m mk z:Nat}{mt kt:TypeId}{ins:List (Nat×List V×List V)}{kl:List V}{q:List V->Bool}{x:Nat×List V×List V}(om oi ov:Nat)
  (h1:(ops[x.1]?).map (λo=>(o.op,o.dst))=some (.insert mt (.tmp om) (.tmp oi) (.tmp ov),none)) (h0:SF.t om=.mp m) (h2:SF.t oi=I4 (M6 P kt) x.2.1) (h3:SF.t ov=I4 (GP z) x.2.2)
  (h4:(WZ ops x.1 om&&(WZ ops x.1 oi&&(WZ ops x.1 ov&&(Gs ops x.1 mk&&decide (x.1 < ops.size)))))=true) (h5:x.2.1.length=Xi z/\x.2.2.length=mvn z/\(x.2.1++x.2.2).all V.Zq=true)
  (h6:(R5 P kt x.2.1 x.2.1).isSome=true) (h7:(ins.all λy=>y.1==x.1 || (match R5 P kt x.2.1 y.2.1 with|some false=>true|_=>false))=true) (h8:R5 P kt kl x.2.1=some (q x.2.1)):EH P ops SF m mk z mt kt ins kl q x:=by
 obtain⟨o,ho,he⟩:=zJ.1 h1;simp only[zL,zM] at h4;obtain⟨k1,k2,k3,k4,k5⟩:=h4;refine⟨(by grind),zN.1 h5.2.2,h5.1,h5.2.1,h6,λy hy hne=>?_,h8⟩;grind
structure iH(P:Program)(G:zi)(ops:Array Oper)(st SF:St)(m mk lk cp z:Nat)(mt kt et:TypeId)(ins:List (Nat×List V×List V))(pure:List (Nat×List Loc))(kl:List V)(res zv:V)(q:List V->Bool):Prop where
 cov:∀i,i < ops.size->i=mk\/i=lk\/(∃x,x∈ins/\x.1=i)\/∃x,x∈pure/\x.1=i
 guard:∀(i:Nat) (o:Oper),ops[i]?=some o->o.guard=none
 sf:∀t,(∀k,k < ops.size->Yk ops k≠some t)->SF.t t=st.t t
 sfn:SF.n=st.n
 sfb:∀b,b≠m->SF.b b=st.b b/\SF.u b=st.u b
 fresh:st.b m=none/\st.u m=false
 step:∀x,x∈pure->∃d,Yk ops x.1=some d/\HN P G ops x.1 SF=some (x.2,[.t d (SF.t d)])
 reads:∀x,x∈pure->∀l,l∈x.2->(match l with|.t t=>WZ ops x.1 t|.b b=>b != m)=true
 make:∃o:Oper,ops[mk]?=some o/\o.op=.makeMap mt none/\o.dst=some m/\m < st.n/\SF.t m=.mp m/\J0<=z
 maps:P.underlying mt=some (.map kt et)/\mX z=M6 P kt/\HM P et=some zv/\(mX z=false->Xi z=1)/\(GP z=false->mvn z=1)
 put:∀x,x∈ins->EH P ops SF m mk z mt kt ins kl q x
 look:∃(o:Oper) (om oi d:Nat),ops[lk]?=some o/\o.op=.lookup mt (.tmp om) (.tmp oi) false/\o.dst=some d/\d < st.n/\SF.t om=.mp m/\SF.t oi=I4 (M6 P kt) kl/\SF.t d=res/\WZ ops lk om=true/\WZ ops lk oi=true/\
  Gs ops lk cp=true/\cp < ops.size/\Gs ops cp mk=true/\∀x,x∈ins->Gs ops cp x.1=true
 self:(R5 P kt kl kl).isSome=true
 hit:∀x,x∈ins->q x.2.1=true->I4 (GP z) x.2.2=res
 Qwz:(∀x,x∈ins->q x.2.1=false)->zv=res
 apart:mk≠lk/\(∀x,x∈ins->x.1≠mk/\x.1≠lk)/\(∀x,x∈pure->x.1≠mk)/\∀x y,x∈ins->y∈ins->x.1=y.1->x=y
def Qd4(ops:Array Oper)(st SF:St)(m mk z:Nat)(ins:List (Nat×List V×List V))(D:zl)(s:St):Prop:=
 s.n=st.n/\(∀t,s.t t=bif HL ops D t then SF.t t else st.t t)/\(∀b,b≠m->s.b b=st.b b/\s.u b=st.u b)/\
  (D mk=false->s.b m=none/\s.u m=false)/\(D mk=true->∃rows,s.b m=some ⟨z,true,rows⟩/\∀r,r∈rows↔∃x,x∈ins/\D x.1=true/\r=x.2.1++x.2.2)
theorem UD{ops:Array Oper}{D:zl}{i:Nat}(hi:i < ops.size)(t:Nat):HL ops (λj=>D j || decide (j=i)) t=(HL ops D t || (Yk ops i==some t)):=by
 unfold HL;grind
theorem TV.rG{ops:Array Oper}{id:Nat}{st SF:St}{Q:Exit->St->Prop}{m mk lk cp z:Nat}{mt kt et:TypeId}{ins:List (Nat×List V×List V)}{pure:List (Nat×List Loc)}{kl:List V}{res zv:V}{q:List V->Bool}
  (hm:P.follows .mixedOrders=true) (hback:(ops.toList.zipIdx.all λx=>x.1.after.all λe=>!Region.binds .any e || decide (e.on < x.2))=true)
  (h:iH P G ops st SF m mk lk cp z mt kt et ins pure kl res zv q)
  (hq:∀s:St,s.n=st.n->(∀t,s.t t=SF.t t)->(∀b,b≠m->s.b b=st.b b/\s.u b=st.u b)->Q .normal s):TV P G (.region id ops true) st Q:=by
 have read:∀{D:zl} {s:St} {i t:Nat},Qd4 ops st SF m mk z ins D s->(∀o,ops[i]?=some o->∀e,e∈o.after->Region.binds .any e=true->D e.on=true)->WZ ops i t=true->s.t t=SF.t t:=by
  intro D s i t hI hd ht;rw[hI.2.1 t];cases hdn:HL ops D t with
  | true=>rfl
  | false=>
   refine(h.sf t λk hk hdst=>?_).symm;have hk':=zN.1 ht k (by simpa using hk);rw[hdst] at hk';simp only[bne_self_eq_false,Bool.false_or] at hk';have:=YG hk' hd;grind [List.any_eq_true,HL]
 refine TV.Qef (I:=Qd4 ops st SF m mk z ins) hm hback (λD s i hi hDi hin hc hd hI=>?_) (λD s hall hin hI=>?_) ?_
 ·have hg:∀{o:Oper} {s:St},ops[i]?=some o->E4 ops s o=some true:=λho=>by unfold E4;rw[h.guard i _ ho]
  rcases h.cov i hi with rfl|rfl|⟨x,hx,rfl⟩|⟨x,hx,rfl⟩
  ·
   obtain⟨o,ho,hop,hdst,hmn,hsf,hM⟩:=h.make;obtain⟨hb,hu⟩:=hI.2.2.2.1 hDi;refine⟨s.app [.b m (some ⟨z,true,[]⟩),.t m (.mp m)],?_,?_⟩
   ·unfold C1;rw[ho];exact .inl ⟨hg ho,(Qh.makeMap (P:=P) (G:=G) mt m z hM).ok () rfl o s hop hdst (λ_ h=>by cases h) (λ_ h=>by cases h) λd hd'=>by
     obtain rfl:=wu hd';exact⟨by rw[hI.1];exact hmn,hu⟩⟩
   ·refine⟨hI.1,λt=>?_,λb hb'=>?_,λe=>by simp at e,λ_=>⟨[],by simp[St.app,St.wr,St.QG,St.Qj],λr=>⟨λhr=>(by cases hr),λ⟨x,hx,hD,_⟩=>?_⟩⟩⟩
    ·rw[UD hi t];have hdo:Yk ops i=some m:=by grind [Yk]
     rw[hdo];show (if t=m then V.mp m else s.t t)=_;by_cases ht:t=m
     ·grind
     ·rw[if_neg ht,hI.2.1 t];grind
    ·have:(s.app [.b m (some ⟨z,true,[]⟩),.t m (.mp m)]).b b=s.b b/\(s.app [.b m (some ⟨z,true,[]⟩),.t m (.mp m)]).u b=s.u b:=by
      simp[St.app,St.wr,St.QG,St.Qj,hb']
     rw[this.1,this.2];exact hI.2.2.1 b hb'
    ·simp only[wi,zM] at hD;rcases hD with hD|hD
     ·obtain⟨⟨o',_,_,_,ho',_,_,_,_,_,_,_,_,he,hlt⟩,_⟩:=h.put x hx;have:=YG he (hc x.1 · hD);grind
     ·exact absurd hD (h.apart.2.1 x hx).1
  ·
   obtain⟨o,om,oi,d,ho,hop,hdst,hdn,h1,h2,h3,h4,h5,h6,h7,h8,h9⟩:=h.look;have hcp:D cp=true:=YG h6 hd;have hmk:D mk=true:=YG h8 (hc cp · hcp);obtain⟨rows,hb,hr⟩:=hI.2.2.2.2 hmk;have hall:∀x,x∈ins->D x.1=true:=λx hx=>YG (h9 x hx) (hc cp · hcp);obtain⟨m1,m2,m3,m4,m5⟩:=h.maps;have rowOf:∀r,r∈rows->∃x,x∈ins/\r=x.2.1++x.2.2/\r.take (Xi z)=x.2.1/\r.drop (Xi z)=x.2.2:=λr hr'=>by
    obtain⟨x,hx,_,rfl⟩:=(hr r).1 hr';obtain⟨_,_,hl,_⟩:=h.put x hx;grind
   let p:List V->Bool:=λr=>q (r.take (Xi z))
   have mr:BI P mt kt et z rows p kl:=⟨m1,m2,h.self,λr hr'=>by
    obtain⟨x,hx,_,e,_⟩:=rowOf r hr';show R5 P kt kl (r.take (Xi z))=some (q (r.take (Xi z)));rw[e];exact(h.put x hx).2.2.2.2.2.2⟩
   have hres:Iu rows p (λr=>I4 (GP z) (r.drop (Xi z))) zv=res:=by
    unfold Iu;cases hf:rows.findIdx? p with
    | none=>
     have hn:=List.findIdx?_eq_none_iff.1 hf;refine h.Qwz λx hx=>?_;have hm':x.2.1++x.2.2∈rows:=(by grind)
     have:=hn _ hm';obtain⟨_,_,hl,_⟩:=h.put x hx;grind
    | some j=>
     obtain⟨hj,hpj,_⟩:=List.findIdx?_eq_some_iff_getElem.1 hf;have hx':rows[j]?=some rows[j]:=wA hj;obtain⟨x,hx,_,e,e2⟩:=rowOf rows[j] (List.getElem_mem _);simp only[hx',e2];exact h.hit x hx (by grind)
   refine⟨s.put (some d) res,?_,?_⟩
   ·unfold C1;rw[ho];refine .inl ⟨hg ho,?_⟩;rw[<-hres];exact Bf mr m3 hop hdst (by rw[hI.1];exact hdn) (show some (s.t om)=_ by grind) (show some (s.t oi)=_ by grind) hb
   ·refine⟨hI.1,λt=>?_,λb hb'=>hI.2.2.1 b hb',(by grind),λ_=>⟨rows,hb,λr=>?_⟩⟩
    ·rw[UD hi t];have hdo:Yk ops i=some d:=by grind [Yk]
     rw[hdo];show (if t=d then res else s.t t)=_;by_cases ht:t=d
     ·grind
     ·rw[if_neg ht,hI.2.1 t];grind
    grind
  ·
   obtain⟨⟨o,om,oi,ov,ho,hop,hdst,h1,h2,h3,h4,h5,h6,h7,h8⟩,hcell,hl1,hl2,hself,hne,_⟩:=h.put x hx;have hmk:D mk=true:=YG h7 hd;obtain⟨rows,hb,hr⟩:=hI.2.2.2.2 hmk;obtain⟨m1,m2,m3,m4,m5⟩:=h.maps;have mr:BI P mt kt et z rows (λ_=>false) x.2.1:=⟨m1,m2,hself,λr hr'=>by
    obtain⟨y,hy,hD,rfl⟩:=(hr r).1 hr';obtain⟨_,_,hl,_⟩:=h.put y hy;grind⟩
   refine⟨s.Qj m ⟨z,true,rows++[x.2.1++x.2.2]⟩,?_,?_⟩
   ·unfold C1;rw[ho];exact .inl ⟨hg ho,VR mr (λ_ _=>rfl) hop hdst (show some (s.t om)=_ by grind) (show some (s.t oi)=_ by grind) (show some (s.t ov)=_ by grind) hb hcell hl1 hl2 m4 m5⟩
   ·refine⟨hI.1,λt=>?_,λb hb'=>?_,(by grind),λ_=>⟨rows++[x.2.1++x.2.2],by simp[St.Qj],λr=>?_⟩⟩
    ·rw[UD hi t];have hdo:Yk ops x.1=none:=by grind [Yk]
     rw[hdo];show s.t t=_;rw[hI.2.1 t];simp
    ·have:(s.Qj m ⟨z,true,rows++[x.2.1++x.2.2]⟩).b b=s.b b/\(s.Qj m ⟨z,true,rows++[x.2.1++x.2.2]⟩).u b=s.u b:=by simp[St.Qj,hb']
     rw[this.1,this.2];exact hI.2.2.1 b hb'
    ·rw[ww,wG,hr r];constructor
     ·grind
     ·rintro⟨y,hy,hD,e⟩;simp only[wi,zM] at hD;rcases hD with hD|hD
      ·grind
      ·by_cases hyx:D y.1=true
       ·grind
       ·exact .inr (by rw[h.apart.2.2.2 y x hy hx hD] at e;exact e)
  ·
   obtain⟨d,hdst,hst⟩:=h.step x hx;have hag:∀l,l∈x.2->O5 SF s l:=λl hl=>by
    have:=h.reads x hx l hl;cases l with
    | t t=>exact(read hI hd this).symm
    | b b=>
     have hb':b≠m:=by grind
     exact⟨by rw[(h.sfb b hb').1,(hI.2.2.1 b hb').1],by rw[(h.sfb b hb').2,(hI.2.2.1 b hb').2]⟩
   have hs2:=Jn hst s (by rw[hI.1,h.sfn]) hag;refine⟨s.app [.t d (SF.t d)],hs2,?_⟩;have hne:x.1≠mk:=h.apart.2.2.1 x hx;have e1:(D mk || decide (mk=x.1))=D mk:=by grind
   refine⟨hI.1,λt=>?_,λb hb'=>hI.2.2.1 b hb',λe=>hI.2.2.2.1 (by grind),λe=>?_⟩
   ·rw[UD hi t,hdst];show (if t=d then SF.t d else s.t t)=_;by_cases ht:t=d
    ·subst ht;simp
    ·rw[if_neg ht,hI.2.1 t];grind
   ·obtain⟨rows,hb,hr⟩:=hI.2.2.2.2 (by grind);refine⟨rows,hb,λr=>?_⟩;rw[hr r];constructor
    ·grind
    ·rintro⟨y,hy,hD,e⟩;simp only[wi,zM] at hD;rcases hD with hD|hD
     ·exact⟨y,hy,hD,e⟩
     ·obtain⟨⟨o',_,_,_,ho',_,hdn,_⟩,_⟩:=h.put y hy;have:Yk ops x.1=none:=by unfold Yk;rw[<-hD,ho'];exact hdn
      rw[hdst] at this;cases this
 ·refine hq s hI.1 (λt=>?_) hI.2.2.1;rw[hI.2.1 t];cases hdn:HL ops D t with
  | true=>rfl
  | false=>
   refine(h.sf t λk hk hdst=>?_).symm;have hx:HL ops D t=true:=by
    unfold HL;exact List.any_eq_true.2 ⟨k,by simpa using hk,by simp[hall k hk,hdst]⟩
   rw[hx] at hdn;cases hdn
 ·refine⟨rfl,λt=>?_,λ_ _=>⟨rfl,rfl⟩,λ_=>h.fresh,λe=>by cases e⟩;have:HL ops (λ_=>false) t=false:=by unfold HL;simp
  rw[this];rfl
end Go.EV
namespace Go.EV
open Go
def WA(P:Program)(G:zi)(f:FuncId)(args:List V)(ins:zj)(u:FrameMode)(ee:Value->Ending)(u':FrameMode)(outs:zj):Prop:=
 ∀(γ:Gh) (w:World) (as:Array Value),Ha G γ w->(∀B x,γ.own B=some x->B < w.heap.size)->U4 γ w ins Qw args as->
  (∀b k,ins b=some k->Qw b=true/\X3 γ w ins Qw b k)->
  CallsDIn (RF none) 0 P f as u w λe u2 w'=>u2=u'/\∃v γ',e=ee v/\Qe γ w γ' w'/\Zf γ ins Qw γ' outs (λ_=>true)/\
   (∀b k,outs b=some k->X3 γ' w' outs (λ_=>true) b k)/\(∀B x,γ'.own B=some x->B < w'.heap.size)
theorem EM{F:Fence}{n:Nat}{P:Program}{ops:Array Oper}{l:List Nat}{o0:Oper}{id:Nat}{a:Act}{cs cs1:List Frame}{w:World}{rv:Value}{Q:Exit->Act->List Frame->World->Prop}(hF0:F.round=none)(ho:ops[0]?=some o0)(hl:List.range ops.size=0 :: l)
  (hw:Region.wanted o0 (yielded ops a.tmps)=true) (hab:∀f,o0.about P w a.eval=some f->F.fn f) (e0:(execOp a.eval o0).run P w=.ok .recover w)
  (hrec:(∃v,recoverD cs=some (v,cs1)/\rv=v)\/(recoverD cs=none/\rv=.nilIface/\cs1=cs)) (h:wpOpsIn F n P ops (λe a' w'=>Q e a' cs1 w') l (a.put o0.dst rv) w) :
  (Code.region id ops false).wpSIn F n P Q a cs w:=λb k hb hro hF hroom=>by
 have hlen:cs1.length=cs.length:=by
  grind [recoverD_length]
 obtain⟨e,a',w',hq,harr⟩:=wp_opsIn l (a.put o0.dst rv) w h b k cs1 (hro.trans hF0.symm) hF (by grind);refine⟨e,a',cs1,w',hlen,hq,.of_steps (.one (fenced_calm hF hroom rfl) stepR_region) ?_⟩;rw[hl];have h0:(lone (b.atR a (.inRegion ops (0 :: l) :: k)) cs w).fenced P F:=fenced_oper hF hroom ho hab;have hg:=stepGR_op (P:=P) (b:=b) (k:=k) (cs:=cs) (w:=w) (rest:=l) ho hw;rw[hro,Oper.semAt_none] at hg;have hfin:∀v,(b.atR a (.inRegion ops (0 :: l) :: k)).finish v=b.atR (a.put o0.dst v) (.inRegion ops l :: k):=by
  grind [Frame.finish_atR]
 have hk:(b.atR a (.inRegion ops (0 :: l) :: k)).kind=.deferred:=hb;have htr:=tryRecover_deferred hk cs;refine .of_steps (.one h0 (step_lone_go ?_)) harr;rcases hrec with⟨v,h1,rfl⟩|⟨h1,rfl,rfl⟩
 ·simp_all [Frame.atR,stepG.apply]
 simp_all [Frame.atR,stepG.apply]
section
variable {P:Program} {G:zi}
def lL(t:Nat):List Oper->List Oper
 | o :: l=>{ o with op:=.move (.tmp t) } :: l
 | []=>[]
def C9(ops:Array Oper)(t:Nat):Array Oper:=⟨lL t ops.toList⟩
theorem Mi(ops:Array Oper)(t i:Nat):(C9 ops t)[i]?=if i=0 then (ops[0]?).map (λo=>{ o with op:=.move (.tmp t) }) else ops[i]?:=by
 obtain⟨l⟩:=ops;cases l with
 | nil=>grind [C9,lL]
 | cons o l=>
  by_cases h:i=0
  ·subst h;simp[C9,lL]
  ·obtain⟨j,rfl⟩:=Nat.exists_eq_succ_of_ne_zero h;simp[C9,lL]
theorem U8.ghost{ops:Array Oper}{l:List Nat}{st st':St}{Q:Exit->St->Prop}(g:QU G st st')(h:U8 P G ops l st' Q):U8 P G ops l st Q:=λfx γ a w hs hd=>by
 obtain⟨γ',h1,h2,h3⟩:=g γ a.tmps w hs;exact H9 (λ_ _ _ hl=>hl.grow ⟨h2,h3⟩) l a w (h fx γ' a w h1 (hd.grow h2 hd.1))
theorem U8.uF{ops:Array Oper}{t m:Nat}{S:St}{Q:Exit->St->Prop}{o0:Oper}(ho:ops[0]?=some o0)(hd:o0.dst=some t)(hg:o0.guard=none)
  (h:U8 P G (C9 ops t) (0 :: List.range' 1 m) S Q):U8 P G ops (List.range' 1 m) S Q:=by
 intro fx γ a w hs hx;have h1:=h fx γ a w hs hx;have e0:(C9 ops t)[0]?=some { o0 with op:=.move (.tmp t) }:=by rw[Mi,if_pos rfl,ho];rfl
 have hy:∀tm,yielded (C9 ops t) tm=yielded ops tm:=λtm=>funext λj=>by
  unfold yielded;rw[Mi];grind
 have congr:∀(K:Exit->Act->World->Prop) (l:List Nat) (a:Act) (w:World),(∀i,i∈l->i≠0)->wpOpsIn (RF fx.ro) 0 P (C9 ops t) K l a w->wpOpsIn (RF fx.ro) 0 P ops K l a w:=by
  intro K l;induction l with
  | nil=>exact λ_ _ _ h=>h
  | cons i l ih=>
   intro a w hl h;simp only[wpOpsIn] at h ⊢;rw[Mi,if_neg (hl i (by simp))] at h;have hl':∀j,j∈l->j≠0:=(by grind);cases hoi:ops[i]? with
   | none=>grind
   | some o=>
    rw[hoi] at h;simp only[hy] at h ⊢;split at h
    ·rename_i hw;rw[if_pos hw];grind [Oper.wpIn_mono]
    grind
 simp only[wpOpsIn,e0] at h1;have hw:Region.wanted { o0 with op:=.move (.tmp t) } (yielded (C9 ops t) a.tmps)=true:=by unfold Region.wanted;rw[hg]
 rw[if_pos hw] at h1;have e:({ o0 with op:=.move (.tmp t) }:Oper).semAt fx.ro a.eval=pure (.value (a.eval (.tmp t))):=by
  rw[Oper.semAt_eq _ _ _ (λc=>by simp)];rfl
 have h2:=h1.2;rw[show (RF fx.ro).round=fx.ro from rfl,e] at h2;have h3:wpOpsIn (RF fx.ro) 0 P (C9 ops t) (L7 G fx γ S w Q) (List.range' 1 m) (a.put o0.dst (a.eval (.tmp t))) w:=h2;rw[hd] at h3;have ea:a.put (some t) (a.eval (.tmp t))=a:=by
  have:a.tmps.setIfInBounds t (a.tmps.getD t undef)=a.tmps:=by
   apply Array.ext_getElem?;intro i;rw[Array.getElem?_setIfInBounds];split
   ·rename_i hi;subst hi;split
    ·simp_all
    grind
   ·rfl
  show ({ a with tmps:=a.tmps.setIfInBounds t (a.tmps.getD t undef) }:Act)=a;rw[this]
 grind
theorem K5.uF{ops:Array Oper}{t m n id:Nat}{kp:List Nat}{x:Ext}{ρ:Type}{g:T P G ρ}{E:ρ->Ext}{o0:Oper}(ho:ops[0]?=some o0)(hd:o0.dst=some t)(hg:o0.guard=none)
  (h:K5 P G kp n id (C9 ops t) (m+1) x g E) (hm:P.follows .mixedOrders=true) {r:ρ} (hr:g.run=some r) (hE:(E r).ok=true) :
  U8 P G ops (List.range' 1 m) (x.D n).st (λe s=>e=(E r).ex/\QU G s ((E r).D n).st):=
 U8.uF ho hd hg (by have:=h.tv hm hr hE;rwa [List.range'_succ] at this)
theorem DT{f:FuncId}{fn:Func}{ops:Array Oper}{rest:Code}{rid t1 n:Nat}{l:List Nat}{o0:Oper}{args:List V}{ins outs:zj}{u u':FrameMode}{rv:Value}{S1:St}{ee:Value->Ending}{ex:Exit->Prop}
  (hf:P.funcs[f]?=some fn) (hb:fn.body=some (.seq (.region rid ops false) rest)) (hn:n=max fn.ntmps args.length) (ho0:ops[0]?=some o0) (hl:List.range ops.size=0 :: l)
  (h0:o0.op=.call { callee:=.builtin .recover,args:=#[],argTypes:=#[] }) (h0d:o0.dst=some t1) (h0g:o0.guard=none) (ht1:t1 < n)
  (hi:Wn rv=true) (hr:WE u rv u') (hres:fn.results=#[])
  (hT:U8 P G ops l ((U3 n args ins).put (some t1) (.Zu rv)) (λe s=>e=.normal/\QU G s S1))
  (hB:TV P G rest S1 (λe s=>ex e/\∃s2,QU G s s2/\∀b k,outs b=some k->s2.b b=some k))
  (hex:(ee=.returned/\∀e,ex e->e=.normal\/e=.ret)\/∃ch,ee=(λ_=>.panicked ch)/\∀e,ex e->e=.panic ch) :
  WA P G f args ins u ee u' outs:=by
 intro γ w as hg ho ha hbl;have hsz:as.size=args.length:=ha.1;have hs:Qs G γ (U3 n args ins) (as++Array.replicate (fn.ntmps - as.size) undef) w:=by
  refine⟨by grind [Array.size_append,Array.size_replicate,U3],λi=>?_,λb k hk=>(hbl b k hk).2,λb k hk=>(hbl b k hk).1,hg,ho⟩;show Qz γ w ins Qw (args.getD i .undef) _;by_cases hi:i < args.length
  ·have e1:args.getD i .undef=args[i]:=by grind
   have e2:(as++Array.replicate (fn.ntmps - as.size) undef).getD i undef=as[i]'(by omega):=by
    simp_all [wL,Array.getElem?_append_left,wB]
   rw[e1,e2];exact ha.2 i _ _ (by grind) (by grind)
  ·have e1:args.getD i .undef=.undef:=by grind
   rw[e1];exact .undef _
 refine⟨trivial,λc₀ cs hu hroom=>?_⟩;let a0:Act:=⟨as++Array.replicate (fn.ntmps - as.size) undef,[]⟩;let a1:Act:=a0.put (some t1) rv;let b:Frame:={ (default:Frame) with fn:=f,kind:=.deferred,roundOf:=none };have henter:Frame.enter P f as .deferred=b.atR a0 [.code (.seq (.region rid ops false) rest)]:=by
  grind [Frame.enter,Frame.atR]
 have hs1:Qs G γ ((U3 n args ins).put (some t1) (.Zu rv)) a1.tmps w:=hs.put (dst:=some t1) (by grind [W2,U3]) (.data (.Zu rv hi));have e0:(execOp a0.eval o0).run P w=.ok .recover w:=by
  unfold execOp;rw[h0];rfl
 have w0:∀a:Act,Region.wanted o0 (yielded ops a.tmps)=true:=(by grind [Region.wanted])
 let c1:Frame:={ c₀ with mode:=u' }
 have hw:Code.wpSIn (RF none) 0 P (.seq (.region rid ops false) rest) (λe a' cs' w'=>cs'=c1 :: cs/\L7 G ⟨none,[],true⟩ γ ((U3 n args ins).put (some t1) (.Zu rv)) w (λe s=>ex e/\∃s2,QU G s s2/\∀b k,outs b=some k->s2.b b=some k) e a' w') a0 (c₀ :: cs) w:=by
  refine wpSIn_seq (EM (cs1:=c1 :: cs) (rv:=rv) rfl ho0 hl (w0 _) (λ_ _=>trivial) e0 ?_ ?_)
  ·rcases hr with⟨r1,r2,r3⟩|⟨v,older,r1,r2,r3⟩
   ·refine .inr ⟨by simp[recoverD,hu,r1],r2,?_⟩;show ({ c₀ with mode:=u' }:Frame) :: cs=c₀ :: cs;rw[r3,<-r1,<-hu]
   grind [recoverD]
  ·rw[h0d];refine H9 (λe a' w' hl=>?_) l a1 w (hT ⟨none,[],true⟩ γ a1 w hs1 ⟨rfl,rfl,λ_ h=>by simp at h⟩);obtain⟨s',γ1,q1,⟨q2,q3⟩,qd,rfl,hg1⟩:=hl;obtain⟨γ2,q4,q5,q6⟩:=hg1 γ1 a'.tmps w' q1;show Code.wpSIn (RF none) 0 P rest _ a' (c1 :: cs) w';obtain⟨Ds,d0,d1,d2,d3⟩:=qd;refine wpSIn_of_wpIn rfl (wpIn_mono (hB ⟨none,a'.defers,true⟩ γ2 a' w' q4 (UE.free _ _)) λe2 a2 w2 hl2=>⟨rfl,?_⟩);exact hl2.Lf ⟨q2.trans q5,q3.trans q6⟩ ⟨Ds,d0,d1,d2,λD hD=>⟨(d3 D hD).1,(d3 D hD).2.1,(q5.free D (by grind) (d3 D hD).2.2).2.1⟩⟩
 obtain⟨e,a',cs',w',hl,⟨rfl,hq⟩,harr⟩:=hw b [] rfl rfl trivial hroom;rw[<-henter] at harr;obtain⟨s0,γ0,k0,⟨g0,p0⟩,⟨Ds,_,m1,m2,m3⟩,he,s',hg,hout⟩:=hq;obtain⟨γ',k1,g1',p1'⟩:=hg γ0 a'.tmps w' k0;have g1:=g0.trans g1';have p1:=p0.trans p1';simp only[wS] at m1;have ble:G7 γ' s'.b s'.u γ' outs (λ_=>true):=by
  refine⟨λ_ _=>rfl,λb _ hn=>?_,λb k hk=>⟨rfl,?_⟩⟩
  ·cases ho:outs b with
   | none=>rfl
   | some k=>grind
  ·cases ho:outs b with
   | none=>exact .inl rfl
   | some k'=>
    grind
 have fin:∀(md:FrameMode) (todo:List Item),(md=.returning/\ee=.returned)\/(∃ch,md=.panicking ch/\ee=λ_=>.panicked ch)->StepsIn (Machine.fenced P (RF none)) P (lone (Frame.enter P f as .deferred) (c₀ :: cs) w) (lone { b.atR a' todo with mode:=md } (c1 :: cs) w')->
   ∃e u2 w' fr,(u2=u'/\∃v γ',e=ee v/\Qe γ w γ' w'/\Zf γ ins Qw γ' outs (λ_=>true)/\(∀b k,outs b=some k->X3 γ' w' outs (λ_=>true) b k)/\(∀B x,γ'.own B=some x->B < w'.heap.size))/\
    ComesIn (Machine.fenced P (RF none)) P (lone (Frame.enter P f as .deferred) (c₀ :: cs) w) (lone fr ({ c₀ with mode:=u2 } :: cs) w') e/\fr.kind=.deferred/\fr.fn=f/\fr.going P w' e:=by
  intro md todo hmd hst;have hmr:md≠.run:=by grind
  obtain⟨w2,⟨i1,i2⟩,st2⟩:=Wo (P:=P) (λw2=>Qs G γ' s' a'.tmps w2/\Qe γ w γ' w2) Ds { b.atR a' todo with mode:=md } (c1 :: cs) w' hmr m1 ⟨k1,g1⟩ m2 (λD hD=>(m3 D hD).2.1) (λD w7 hD hI hd=>
   ⟨(Y4.put hd rfl).Nc hI.1,hI.2.put hd rfl (m3 D hD).1⟩)
  have hpin:Zf γ ins Qw γ' s'.b s'.u:=p1;obtain⟨v,hv,_⟩:=C6 (P:=P) i1 (show F1 P s' fn.results.toList=some (.Qc []) by rw[hres];rfl);have hblk:∀b k,outs b=some k->X3 γ' w2 outs (λ_=>true) b k:=λb k hk=>by
   rcases i1.b b k (hout b k hk) with h0|hm|⟨hM,B,o,cs,e,a1,a2,a3,a4,a5,a6,a7,a8⟩
   ·exact .inl h0
   ·exact .inr (.inl (hm.same rfl (by grind) λc v hr=>hr.mono (.refl _ _) ble))
   refine .inr (.inr ⟨hM,B,o,cs,e,a1,a2,a3,a4,a5,λi c hc=>?_,a7,a8⟩);obtain⟨x,b1,b2,b3,b4⟩:=a6 i c hc;exact⟨x,b1,b2.mono (.refl _ _) ble,b3,b4⟩
  rcases hmd with⟨rfl,rfl⟩|⟨ch,rfl,rfl⟩
  ·exact⟨.returned v,u',w2,{ { b.atR a' todo with mode:=.returning } with defers:=[] },⟨rfl,v,γ',rfl,i2,hpin.trans ble.Ue,hblk,i1.o⟩,StepsIn.trans hst st2,rfl,rfl,rfl,rfl,fn,hf,hv⟩
  ·exact⟨.panicked ch,u',w2,{ { b.atR a' todo with mode:=.panicking ch } with defers:=[] },⟨rfl,v,γ',rfl,i2,hpin.trans ble.Ue,hblk,i1.o⟩,StepsIn.trans hst st2,rfl,rfl,rfl,rfl,fn,hf⟩
 rcases hex with⟨rfl,h⟩|⟨ch,rfl,h⟩
 ·rcases h _ he with rfl|rfl
  ·exact fin .returning [] (.inl ⟨rfl,rfl⟩) (StepsIn.trans harr (.one (RF.fenced _ _ _) (stepR_end rfl)))
  ·obtain⟨todo,hs⟩:=harr.1 rfl;grind
 ·obtain rfl:=h _ he;obtain⟨todo,hs⟩:=harr;exact fin (.panicking ch) todo (.inr ⟨ch,rfl,rfl⟩) hs
def settled(u:FrameMode):Ending->FrameMode
 | .returned _=>settle u
 | .panicked ch=>raised u ch
 | .outgrown=>u
theorem Zf.Qo{γ γ1:Gh}{S S':St}(h3:Zf γ.shift S.shift.b S.shift.u γ1 S'.shift.b S'.shift.u)(hu:S'.u=S.u)(hsu:∀b k,S.b b=some k->S.u b=true):Zf γ S.b S.u γ1.Qo S'.b S'.u:=λb hb=>by
 obtain⟨p1,p2,p3⟩:=h3 (sh b) (by simp_all [zL,zM,KK,X8,sh]);refine⟨(by grind),λh hn=>?_,λk hk'=>⟨?_,?_⟩⟩
 ·have:=p2 (LC b) (by show QZ S.b (sh b)=none;rw[C4,hn];rfl);have h0:QZ S'.b (sh b)=none:=this;simp_all [C4]
 ·grind
 ·obtain⟨_,q⟩:=p3 (k.Qb sh) (by show QZ S.b (sh b)=_;rw[C4,hk'];rfl);rcases q with q|⟨k',q1,q2,q3,q4⟩
  ·have h0:QZ S'.b (sh b)=none:=q;simp_all [C4]
  ·have h0:QZ S'.b (sh b)=some k':=q1;rw[C4] at h0;obtain⟨k0,h00,rfl⟩:=zJ.1 h0;refine .inr ⟨k0,h00,q2,by simpa[Qd.Qb] using q3,?_⟩;have q4:γ1.loc (sh b)=γ.shift.loc (sh b):=q4;simp only[Gh.shift] at q4;rw[if_pos (KK _),Uz] at q4;exact q4
theorem DC{f g:FuncId}{fn:Func}{As:List Code}{rest:Code}{rid t n:Nat}{o0 o1:Oper}{args caps:List V}{ins insD outsD outs:zj}{S0 S1 S2 Sx:St}{ex:Exit}{u u':FrameMode}{ee EE:Value->Ending}{M:FrameMode}{res:V}
  (hf:P.funcs[f]?=some fn) (hb:fn.body=some (As.foldr Code.seq (.seq (.region rid #[o0,o1] false) rest))) (hn:n=max fn.ntmps args.length)
  (hA:iE P G (λe s=>e=.normal/\QU G s S0) As (U3 n args ins)) (hsh:QU G S0.shift S1)
  (h0:I9 P G o0 S1 (S1.put (some t) (.fn g [] caps))) (hg0:E4 #[o0,o1] S1 o0=some true)
  (h1:o1.op=.defer { callee:=.value (.tmp t),args:=#[],argTypes:=#[] }) (h1d:o1.dst=none) (hg1:E4 #[o0,o1] (S1.put (some t) (.fn g [] caps)) o1=some true)
  (hB:TV P G rest (S1.put (some t) (.fn g [] caps)) (λe s=>e=ex/\QU G s S2)) (hex:Left u ex)
  (hcap:∀c,c∈caps->∃b k,c=.ptr b 0 0/\X8 b=true/\S1.b b=some k) (ht:t < S1.n)
  (hS2:S2.b=insD/\S2.u=Qw) (hpin:(∀b k,insD b=some k->X8 b=true)/\∀b k,outsD b=some k->X8 b=true)
  {fg:Func} (hfg:P.funcs[g]?=some fg) (hfgb:fg.body.isSome=true) (hfgn:(fg.name== "runtime.NumGoroutine")=false)
  (hD:WA P G g caps insD u ee u' outsD) (hM:∀v,settled u' (ee v)=M) (hne:∀v,ee v≠.outgrown)
  (hU:QU G ⟨S2.n,S2.t,outsD,λ_=>true⟩ Sx.shift) (hkn:Sx.known) (hu:Sx.u=S0.u) (houts:∀b k,outs b=some k->Sx.b b=some k)
  (hend:(M=.returning/\EE=.returned/\F1 P Sx fn.results.toList=some res/\∀(γ:Gh) (w:World) v,Qz γ w Sx.b Sx.u res v->Qz γ w outs (λ_=>true) res v)\/∃ch,M=.panicking ch/\EE=(λ_=>.panicked ch)/\res=.undef) :
  WX P G f args ins EE res outs:=by
 intro γ w as hg ho ha hbl;have hsz:as.size=args.length:=ha.1;have hs:Qs G γ (U3 n args ins) (as++Array.replicate (fn.ntmps - as.size) undef) w:=by
  refine⟨by grind [Array.size_append,Array.size_replicate,U3],λi=>?_,λb k hk=>(hbl b k hk).2,λb k hk=>(hbl b k hk).1,hg,ho⟩;show Qz γ w ins Qw (args.getD i .undef) _;by_cases hi:i < args.length
  ·have e1:args.getD i .undef=args[i]:=by grind
   have e2:(as++Array.replicate (fn.ntmps - as.size) undef).getD i undef=as[i]'(by omega):=by
    simp_all [wL,Array.getElem?_append_left,wB]
   rw[e1,e2];exact ha.2 i _ _ (by grind) (by grind)
  ·have e1:args.getD i .undef=.undef:=by grind
   rw[e1];exact .undef _
 refine(callsIn_wide (n:=0)).1 (callsIn_of_wp_marks hf hb trivial ?_);refine II As _ hA ⟨none,[],true⟩ γ ⟨_,[]⟩ w hs ⟨rfl,rfl,λ_ h=>by simp at h⟩ λe a1 w1 hl=>⟨λhe=>?_,λhe=>?_⟩
 rotate_left
 ·obtain⟨_,_,_,_,_,q,_⟩:=hl;grind
 subst he;obtain⟨s1,γ0,k1,⟨g1,p1⟩,⟨Ds,_,m1,m2,m3⟩,_,gs⟩:=hl;obtain⟨γ1,k2,g2,p2⟩:=gs γ0 a1.tmps w1 k1;obtain⟨γ1',k2',g2',p2'⟩:=hsh γ1.shift a1.tmps w1 k2.shift;simp only[wS] at m1;refine wpIn_seq (wpIn_region ?_);have hr:List.range (#[o0,o1]:Array Oper).size=[0,1]:=rfl;rw[hr];simp only[wpOpsIn,show (#[o0,o1]:Array Oper)[0]?=some o0 from rfl,show (#[o0,o1]:Array Oper)[1]?=some o1 from rfl];rw[if_pos (K2 k2' hg0)];refine Lj (h0 ⟨none,a1.defers,false⟩ γ1' a1 w1 k2' rfl _ _ (by grind)) (h0 ⟨none,a1.defers,true⟩ γ1' a1 w1 k2' rfl _ _ λa2 w2 γ2 k3 g3 p3 d3=>?_);rw[if_pos (K2 k3 hg1)];have hv:Qz γ2 w2 (S1.put (some t) (.fn g [] caps)).b (S1.put (some t) (.fn g [] caps)).u (.fn g [] caps) (a2.eval (.tmp t)):=by
  have:=k3.t t;have e:(S1.put (some t) (.fn g [] caps)).t t=.fn g [] caps:=by simp[St.put,St.QG]
  rw[e] at this;exact this
 obtain⟨fs,cv,hval,hf0,hcl,_,hcv⟩:=hv.Hq;have hfs:fs=[]:=(by grind);subst hfs;let d:Deferred:={ target:=.fn (.func g) cv.toArray,args:=#[] };refine⟨λ_ _=>trivial,?_⟩;have hrun:(execOp a2.eval o1).run P w2=.ok (.defer d) w2:=by
  grind [Sem.run_bind,Sem.run_pure,Result.andThen_ok,execOp,resolve,pure,Deferred.ofValue]
 show o1.uponIn (RF none) 0 P a2 _ _ ((o1.semAt none a2.eval).run P w2);rw[Oper.semAt_none,hrun];show rest.wpIn (RF none) 0 P _ ({ a2 with defers:=d :: a2.defers }.put o1.dst undef) w2;rw[h1d];show rest.wpIn (RF none) 0 P _ ({ a2 with defers:=d :: a2.defers }:Act) w2;refine wpIn_mono (hB ⟨none,d :: a2.defers,true⟩ γ2 { a2 with defers:=d :: a2.defers } w2 k3 (UE.free _ _)) λe a4 w4 hl=>?_;obtain⟨s4,γ3,k4,⟨g4,p4⟩,⟨Ds4,_,n1,n2,n3⟩,rfl,gs4⟩:=hl;obtain⟨γ4,k5,g5,p5⟩:=gs4 γ3 a4.tmps w4 k4;have key:LeavesInM (RF none) 0 P fn a4.tmps (λe w'=>∃v γ',e=EE v/\Qe γ w γ' w'/\Zf γ ins Qw γ' outs (λ_=>true)/\Qz γ' w' outs (λ_=>true) res v/\
   (∀b k,outs b=some k->X3 γ' w' outs (λ_=>true) b k)/\(∀B x,γ'.own B=some x->B < w'.heap.size)) a4.defers u w4:=by
  rw[n1];have hur:u≠.run:=by
   rcases hex with⟨_,h⟩|⟨_,h⟩|⟨_,_,h⟩<;>rw[h]<;>simp
  refine G0 hur (λw5=>Qs G γ4 S2 a4.tmps w5/\Qe γ2 w2 γ4 w5) (λw5 hI=>?_) Ds4 w4 ⟨k5,g4.trans g5⟩ n2 (λD hD=>(n3 D hD).2.1) λD w5 hD hI hd=>
   ⟨(Y4.put hd rfl).Nc hI.1,hI.2.put hd rfl (n3 D hD).1⟩
  obtain⟨i1,i2⟩:=hI;have hinv:(invoke d.target d.args).run P w5=.ok (.enter g cv.toArray) w5:=by
   show (callFunc g (#[]++cv.toArray)).run P w5=_;have hname':¬fg.name= "runtime.NumGoroutine":=by grind
   have hbody':¬fg.body=none:=(by grind);simp_all [callFunc]
  refine⟨hur,.inr ⟨(by grind [RF,Fence.wide]),.func g,cv.toArray,g,cv.toArray,rfl,hinv,λ_ _=>trivial,?_⟩⟩;have ptot:=p4.trans p5;rw[hS2.1,hS2.2] at ptot;have hcells:U4 γ4 w5 insD Qw caps cv.toArray:=⟨by grind,λi c v hc hvv=>by
   obtain⟨b,k,rfl,c2,c3⟩:=hcap c (wd hc);have hrep:=hcv i _ v hc (by simpa using hvv);exact(Qz.Cm (w':=w5) hrep (k:=k) c3 c2 ptot)⟩
  have hblk:∀b k,insD b=some k->Qw b=true/\X3 γ4 w5 insD Qw b k:=λb k hk=>by
   refine⟨HA (hpin.1 b k hk),?_⟩;have:=i1.b b k (by grind);grind
  refine(hD γ4 w5 cv.toArray i1.g i1.o hcells hblk).mono λe u2 w6 hR=>?_;obtain⟨rfl,v6,γ5,rfl,g6,p6,b6,o6⟩:=hR;have ble:=Xq p6 hpin.1 hpin.2;have hsim:Qs G γ5 ⟨S2.n,S2.t,outsD,λ_=>true⟩ a4.tmps w6:=by
   refine⟨i1.n,λi=>?_,λb k hk=>b6 b k hk,λ_ _ _=>rfl,i1.g.grow g6,o6⟩;have:=i1.t i;rw[hS2.1,hS2.2] at this;exact this.mono g6 ble
  obtain⟨γ6,j1,j2,j3⟩:=hU γ5 a4.tmps w6 hsim;have gall:Qe γ0 w1 γ6.Qo w6:=g2.trans (g2'.trans (g3.trans (i2.trans (g6.trans j2)))).Qo;have pS:Zf γ1.shift S0.shift.b S0.shift.u γ6 Sx.shift.b Sx.shift.u:=by
   have q1:Zf γ2 (S1.put (some t) (.fn g [] caps)).b (S1.put (some t) (.fn g [] caps)).u γ4 S2.b S2.u:=p4.trans p5;rw[hS2.1,hS2.2] at q1;exact p2'.trans (p3.trans (q1.trans (p6.trans j3)))
  have pall:Zf γ ins Qw γ6.Qo Sx.b Sx.u:=p1.trans (p2.trans (pS.Qo hu λb k hk=>k2.u b k hk));have hs6:Qs G γ6.Qo Sx a4.tmps w6:=j1.Qo hkn;have ble2:G7 γ6.Qo Sx.b Sx.u γ6.Qo outs (λ_=>true):=by
   refine⟨λ_ _=>rfl,λb _ hn=>?_,λb k hk=>⟨rfl,?_⟩⟩
   ·cases ho:outs b with
    | none=>rfl
    | some k=>grind
   ·cases ho:outs b with
    | none=>exact .inl rfl
    | some k'=>
     grind
  have goOn:LeavesInM (RF none) 0 P fn a4.tmps (λe w'=>∃v γ',e=EE v/\Qe γ w γ' w'/\Zf γ ins Qw γ' outs (λ_=>true)/\Qz γ' w' outs (λ_=>true) res v/\
    (∀b k,outs b=some k->X3 γ' w' outs (λ_=>true) b k)/\(∀B x,γ'.own B=some x->B < w'.heap.size)) a2.defers M w6:=by
   rw[show a2.defers=Ds.map YQ++[] by rw[d3.trans m1];simp];have hMr:M≠.run:=by rcases hend with⟨h,_⟩|⟨_,h,_⟩<;>rw[h]<;>simp
   refine G0 hMr (λw7=>Qs G γ6.Qo Sx a4.tmps w7/\Qe γ w γ6.Qo w7) (λw7 hI=>?_) Ds w6 ⟨hs6,g1.trans gall⟩ m2 (λD hD=>?_) λD w7 hD hI hd=>
    ⟨(Y4.put hd rfl).Nc hI.1,hI.2.put hd rfl (m3 D hD).1⟩
   ·obtain⟨j1,j2⟩:=hI;have hblk:∀b k,outs b=some k->X3 γ6.Qo w7 outs (λ_=>true) b k:=λb k hk=>by
     rcases j1.b b k (houts b k hk) with h0|hm|⟨hM,B,o,cs,e,a1,a2,a3,a4,a5,a6,a7,a8⟩
     ·exact .inl h0
     ·exact .inr (.inl (hm.same rfl (λB _ hB=>⟨hB,rfl⟩) λc v hr=>hr.mono (.refl _ _) ble2))
     refine .inr (.inr ⟨hM,B,o,cs,e,a1,a2,a3,a4,a5,λi c hc=>?_,a7,a8⟩);obtain⟨x,b1,b2,b3,b4⟩:=a6 i c hc;exact⟨x,b1,b2.mono (.refl _ _) ble2,b3,b4⟩
    rcases hend with⟨rfl,rfl,hres,hflat⟩|⟨ch,rfl,rfl,rfl⟩
    ·obtain⟨v,hv,hrep⟩:=C6 (P:=P) j1 hres;exact⟨v,hv,v,γ6.Qo,rfl,j2,pall.trans ble2.Ue,hflat _ _ _ hrep,hblk,j1.o⟩
    ·exact⟨undef,γ6.Qo,rfl,j2,pall.trans ble2.Ue,.undef _,hblk,j1.o⟩
   ·obtain⟨_,q1,q2⟩:=m3 D hD;exact(gall.free D (wN.1 q1).1 q2).1.trans q1
  have hm':=hM v6;have hne':=hne v6;cases hev:ee v6 with
  | returned v=>rw[hev] at hm';show LeavesInM (RF none) 0 P fn a4.tmps _ a2.defers (settle u2) w6;rw[show settle u2=M from hm'];exact goOn
  | panicked ch=>rw[hev] at hm';show LeavesInM (RF none) 0 P fn a4.tmps _ a2.defers (raised u2 ch) w6;rw[show raised u2 ch=M from hm'];exact goOn
  | outgrown=>exact absurd hev hne'
 rcases hex with⟨rfl,h⟩|⟨rfl,h⟩|⟨ch,rfl,h⟩
 ·subst h;exact key
 ·subst h;exact key
 ·subst h;exact key
end
theorem cZ{us:List Nat}(h:us.all Qw=true):(λb=>us.contains b || Qw b)=Qw:=(by grind)
theorem iM{x:Ext}(n:Nat)(h:x.us.all Qw=true):(x.D n).st=E6 n (Zw x.ts) (Qm x.bs):=by
 show (⟨n,Zw x.ts,Qm x.bs,λb=>x.us.contains b || Qw b⟩:St)=_;rw[cZ h];rfl
def Ok{P:Program}{G:zi}{ρ:Type}(g:T P G ρ)(Q:ρ->Prop):Prop:=∃r,g.run=some r/\Q r
def Qy{P:Program}{G:zi}{ρ:Type}(s:Spec P G ρ)(Q:ρ->Prop):Prop:=∃r,s.o=some r/\Q r
section
variable {P:Program} {G:zi} {ρ:Type} {Q:ρ->Prop}
theorem Qy.mono{s:Spec P G ρ}{R:ρ->Prop}(h:Qy s R)(hq:∀r,R r->Q r):Qy s Q:=let ⟨r,h1,h2⟩:=h;⟨r,h1,hq r h2⟩
theorem Qy.o{s:Spec P G ρ}{r:ρ}(h:s.o=some r):Qy s (λx=>x=r):=⟨r,h,rfl⟩
theorem Qy.eq{s:Spec P G ρ}{r:ρ}(h:Qy s (λx=>x=r)):s.o=some r:=by obtain⟨x,h1,rfl⟩:=h;exact h1
theorem Ok.d{r:ρ}(h:Q r):Ok (.done r:T P G ρ) Q:=⟨r,rfl,h⟩
theorem Ok.e{a:Nat}{c:Bool}{x y:T P G ρ}(h1:c=true->Ok x Q)(h2:c=false->Ok y Q):Ok (.br a c x y) Q:=by
 cases c with
 | true=>obtain⟨r,e,hq⟩:=h1 rfl;exact⟨r,e,hq⟩
 | false=>obtain⟨r,e,hq⟩:=h2 rfl;exact⟨r,e,hq⟩
theorem Ok.tt{k:T P G ρ}(h:Ok k Q):Ok (.tt k) Q:=h
theorem Ok.ff{k:T P G ρ}(h:Ok k Q):Ok (.ff k) Q:=h
theorem Ok.re{a:Nat}{w:Ji}{k:T P G ρ}(h:Ok k Q):Ok (.re a w k) Q:=h
theorem Ok.g{a:Nat}{w:bG}{k:T P G ρ}(h:Ok k Q):Ok (.gh a w k) Q:=h
theorem Ok.fact{p:Prop}{i:Decidable p}{k:p->T P G ρ}(hp:p)(h:Ok (k hp) Q):Ok (.fact p i k) Q:=by
 obtain⟨r,e,hq⟩:=h;refine⟨r,?_,hq⟩;cases i with
 | isTrue _=>exact e
 | isFalse hn=>grind
theorem Ok.Hp{a:Nat}{k:T P G ρ}(h:Ok k Q):Ok (.Hp a k) Q:=h
theorem Ok.k{a:Nat}{c:Bool}{k:T P G ρ}(hc:c=true)(h:Ok k Q):Ok (.Qa a c k) Q:=by
 subst hc;obtain⟨r,e,hq⟩:=h;exact⟨r,e,hq⟩
theorem Ok.r{α:Type}{a:Nat}{ty:Ty α}{l:List α}{j:Nat}{c:Bool}{k:α->T P G ρ}{x:α}(hc:c=true)(hx:l[j]?=some x)(h:Ok (k x) Q):Ok (.row a ty l j c k) Q:=by
 subst hc;obtain⟨r,e,hq⟩:=h;exact⟨r,by simp_all [cond_true,T.run],hq⟩
theorem Ok.Xr{α:Type}{a b:Nat}{ty:Ty α}{l:List α}{n:Nat}{hs:∀y,ty.c y=ty.d y}{k:T P G ρ}(hn:n<=l.length)(h:Ok k Q):Ok (.Xr a b ty l n hs k) Q:=by
 obtain⟨r,e,hq⟩:=h;exact⟨r,by simp_all [wg,cond_true,T.run],hq⟩
theorem Ok.app{α:Type}{a:Nat}{ty:Ty α}{l x:List α}{bytes:Nat}{fl:Bool}{hf:fl=true->∀y,ty.c y=ty.d y}{k:T P G ρ}(hn:(l.length+x.length) * bytes<=140737488355328)(h:Ok k Q):Ok (.app a ty l x bytes fl hf k) Q:=by
 obtain⟨r,e,hq⟩:=h;exact⟨r,by simp_all [wg,cond_true,T.run],hq⟩
theorem Ok.c{α:Type}{a:Nat}{s:Spec P G α}{Li Lo:List (Nat×Nat)}{k:α->T P G ρ}{R:α->Prop}(hs:Qy s R)(h:∀r,R r->Ok (k r) Q):Ok (.call a s Li Lo k) Q:=by
 obtain⟨x,e1,hr⟩:=hs;obtain⟨r,e,hq⟩:=h x hr;exact⟨r,by grind [T.run],hq⟩
theorem Ok.v{α:Type}{a:Nat}{s:Spec P G α}{vs:List Zb}{k:α->T P G ρ}{R:α->Prop}(hs:Qy s R)(h:∀r,R r->Ok (k r) Q):Ok (.view a s vs k) Q:=by
 obtain⟨x,e1,hr⟩:=hs;obtain⟨r,e,hq⟩:=h x hr;exact⟨r,by grind [T.run],hq⟩
theorem Ok.Qi{α β:Type}{a:Nat}{s:L0 P G α β}{Li Lo:List (Nat×Nat)}{k:α->T P G ρ}{k2:β->T P G ρ}{x:α⊕β}(hs:s.o=some x)(h:∀r,x=.inl r->Ok (k r) Q)(h2:∀r,x=.inr r->Ok (k2 r) Q):Ok (.Qi a s Li Lo k k2) Q:=by
 cases x with
 | inl x=>obtain⟨r,e,hq⟩:=h x rfl;exact⟨r,by grind [T.run],hq⟩
 | inr x=>obtain⟨r,e,hq⟩:=h2 x rfl;exact⟨r,by grind [T.run],hq⟩
theorem Ok.pR{ε ζ:Type}{S:Sub P G (ε⊕ζ)}{k:ε->T P G ρ}{k2:ζ->T P G ρ}{R:ε⊕ζ->Prop}{x:ε⊕ζ}(hr:S.o=some x)(hx:R x)(h:∀r,R (.inl r)->Ok (k r) Q)(h2:∀r,R (.inr r)->Ok (k2 r) Q):Ok (.EI S k k2) Q:=by
 rcases x with r|r
 ·obtain⟨y,h1,h3⟩:=h r hx;exact⟨y,by grind [T.run],h3⟩
 ·obtain⟨y,h1,h3⟩:=h2 r hx;exact⟨y,by grind [T.run],h3⟩
theorem Ok.Ou{ε:Type}{S:Sub P G ε}{k:ε->T P G ρ}{r:ε}(hr:S.o=some r)(h:Ok (k r) Q):Ok (.sub S k) Q:=by
 obtain⟨x,e,hq⟩:=h;exact⟨x,by grind [T.run],hq⟩
theorem Ok.n{ε:Type}{id:Nat}{ts:List Nat}{first:T P G ε}{E:ε->List V}{k:ε->T P G ρ}{R:ε->Prop}(hf:Ok first R)(h:∀e,R e->Ok (k e) Q):Ok (.Zz id ts first E k) Q:=by
 obtain⟨x,e1,hr⟩:=hf;obtain⟨r,e,hq⟩:=h x hr;exact⟨r,by grind [T.run],hq⟩
theorem Ok.b{ε:Type}{j:Nat}{first:T P G ε}{E:ε->Ext}{k:ε->T P G ρ}{R:ε->Prop}(hf:Ok first R)(h:∀e,R e->Ok (k e) Q):Ok (.bind j first E k) Q:=by
 obtain⟨x,e1,hr⟩:=hf;obtain⟨r,e,hq⟩:=h x hr;exact⟨r,by grind [T.run],hq⟩
theorem Ok.p{ε ζ:Type}{j:Nat}{first:T P G (ε⊕ζ)}{E:ε->Ext}{E2:ζ->Ext}{k:ε->T P G ρ}{k2:ζ->T P G ρ}{R:ε⊕ζ->Prop}(hf:Ok first R)(h:∀e,R (.inl e)->Ok (k e) Q)(h2:∀e,R (.inr e)->Ok (k2 e) Q):Ok (.QC j first E E2 k k2) Q:=by
 obtain⟨x,e1,hr⟩:=hf;cases x with
 | inl x=>obtain⟨r,e,hq⟩:=h x hr;exact⟨r,by grind [T.run],hq⟩
 | inr x=>obtain⟨r,e,hq⟩:=h2 x hr;exact⟨r,by grind [T.run],hq⟩
theorem Ok.Ko{a:Nat}{n:Int}{vs:List Int}{k:Int->T P G ρ}(hn:vs.contains n=true)(h:Ok (k n) Q):Ok (.Ko a n vs k) Q:=by
 obtain⟨r,e,hq⟩:=h;exact⟨r,by simp_all [cond_true,T.run],hq⟩
theorem Il{σ ε:Type}{f:σ->Option (σ⊕ε)}(I:σ->Prop)(μ:σ->Nat)(R:ε->Prop)
  (step:∀x,I x->∃r,f x=some r/\(match r with|.inl y=>I y/\μ y < μ x|.inr e=>R e)):∀n x,I x->μ x < n->∃e,I0 f n x=some e/\R e
 | 0,x,_,h=>(by grind)
 | n+1,x,hx,h=>by
  have e1:I0 f (n+1) x=(match f x with|none=>none|some (.inl y)=>I0 f n y|some (.inr e)=>some e):=rfl;rw[e1];obtain⟨r,hr,hq⟩:=step x hx;rw[hr];cases r with
  | inl y=>exact Il I μ R step n y hq.1 (by grind)
  | inr e=>grind
def Rnd{σ ε:Type}(I:σ->Prop)(μ:σ->Nat)(m:Nat)(R:ε->Prop):σ⊕ε->Prop
 | .inl y=>I y/\μ y < m
 | .inr e=>R e
theorem Ok.lp{σ ε:Type}{S:σ->Ext}{body:σ->T P G (σ⊕ε)}{x:σ}{R:ε->Prop}(I:σ->Prop)(μ:σ->Nat)(hx:I x)(hm:μ x < Yv)(step:∀y,I y->Ok (body y) (Rnd I μ (μ y) R)):Ok (.lp S body x) R:=by
 refine Il I μ R (λy hy=>?_) Yv x hx hm;obtain⟨r,h1,h2⟩:=step y hy;refine⟨r,h1,?_⟩;cases r<;>exact h2
end
theorem Qy.fn{P:Program}{G:zi}{kp:List Nat}{f:FuncId}{fn:Func}{args:List V}{ρ:Type}{g:T P G ρ}{res:ρ->V}{hm:P.follows .mixedOrders=true}{hf:P.funcs[f]?=some fn}{k:iB P G kp fn args g res}{Q:ρ->Prop}(h:Ok g Q):Qy (.ofFn f hm hf k) Q:=h
abbrev Zy:=BitVec 32
def iv(b:Zy):Int:=(b.toNat:Int)
theorem Yh(b:Zy):0<=iv b/\iv b < 4294967296:=by unfold iv;omega
theorem Lv(b:Zy):BitVec.ofInt 32 (iv b)=b:=by grind [iv]
theorem BF(n:Int):IntKind.u32.wrap n=n % 4294967296:=IntKind.wrap_u32 n
theorem LG(b:Zy):IntKind.u32.wrap (iv b)=iv b:=by rw[BF];have:=Yh b;omega
theorem ivN(n:Nat):iv (BitVec.ofNat 32 n)=(n:Int) % 4294967296:=by grind [BitVec.toNat_ofNat,iv]
theorem PQ(a b:Zy):R2 .u32 (iv a) (iv b)=iv (a ^^^ b):=by
 show IntKind.u32.wrap ((BitVec.ofInt 32 (iv a) ^^^ BitVec.ofInt 32 (iv b)).toNat:Int)=_;rw[Lv,Lv];exact LG _
theorem Quy(a b:Zy):U1 .u32 (iv a) (iv b)=iv (a &&& b):=by
 show IntKind.u32.wrap ((BitVec.ofInt 32 (iv a) &&& BitVec.ofInt 32 (iv b)).toNat:Int)=_;rw[Lv,Lv];exact LG _
theorem Ci(a b:Zy):Zl .u32 (iv a) (iv b)=iv (a ||| b):=by
 show IntKind.u32.wrap ((BitVec.ofInt 32 (iv a) ||| BitVec.ofInt 32 (iv b)).toNat:Int)=_;rw[Lv,Lv];exact LG _
theorem Qzi(a:Zy):R2 .u32 4294967295 (iv a)=iv (~~~a):=by
 have:(4294967295:Int)=iv (BitVec.allOnes 32):=by decide
 rw[this,PQ,BitVec.allOnes_xor]
theorem BA(a b:Zy):O2 (iv a+iv b)=iv (a+b):=by
 show IntKind.u32.wrap _=_;grind [BF,iv]
theorem PR(a:Zy)(k:Nat)(hk:k<=32):Z5 .u32 (iv a) (k:Int)=iv (a >>> k):=by
 show (iv a).fdiv (2 ^ (min (k:Int).toNat 32))=_;grind [Int.toNat_natCast,Nat.min_eq_left,Int.fdiv_eq_ediv_of_nonneg,Int.pow_nonneg,BitVec.toNat_ushiftRight,Nat.shiftRight_eq_div_pow,iv]
theorem Fu(a:Zy)(k:Nat)(hk:k<=32):E0 .u32 (iv a) (k:Int)=iv (a <<< k):=by
 show IntKind.u32.wrap (iv a * 2 ^ (min (k:Int).toNat 32))=_;grind [Int.toNat_natCast,Nat.min_eq_left,BF,BitVec.toNat_shiftLeft,Nat.shiftLeft_eq,iv]
theorem Qqm(a:Zy)(k:Nat)(h0:0 < k)(hk:k < 32):Zl .u32 (E0 .u32 (iv a) ((32 - k:Nat):Int)) (Z5 .u32 (iv a) (k:Int))=iv (a.rotateRight k):=by
 grind [Fu,PR,Ci,BitVec.rotateRight_def,Nat.mod_eq_of_lt,BitVec.or_comm]
theorem Az(g:zl)(k:Nat):Nd (λi=>decide (i < k)&&g i) k (g k)=λi=>decide (i < k+1)&&g i:=by
 funext i;unfold Nd;grind
theorem Quw(g:zl):(λ_=>false:Nat->Bool)=λi=>decide (i < 0)&&g i:=by funext i;simp
theorem Ij(b:Zy):(λi=>decide (i < 32)&&b.getMsbD i)=b.getMsbD:=by
 grind
theorem Quk{g:zl}(b:Zy)(h:∀i,i < 32->g i=b.getMsbD i):(λi=>decide (i < 32)&&g i)=b.getMsbD:=by
 grind
def BG(l:List Zy)(i:Nat):Zy:=(l[i]?).getD 0
def sg0(x:Zy):Zy:=x.rotateRight 7 ^^^ x.rotateRight 18 ^^^ x >>> 3
def sg1(x:Zy):Zy:=x.rotateRight 17 ^^^ x.rotateRight 19 ^^^ x >>> 10
def bg0(x:Zy):Zy:=x.rotateRight 2 ^^^ x.rotateRight 13 ^^^ x.rotateRight 22
def bg1(x:Zy):Zy:=x.rotateRight 6 ^^^ x.rotateRight 11 ^^^ x.rotateRight 25
def nxt(l:List Zy)(k:Nat):Zy:=BG l (k - 16)+BG l (k - 7)+sg0 (BG l (k - 15))+sg1 (BG l (k - 2))
def M2(b:Nat->Zy):Nat->List Zy
 | 0=>[]
 | k+1=>M2 b k++[if k < 16 then b k else nxt (M2 b k) k]
structure V8 where
 a:Zy
 b:Zy
 c:Zy
 d:Zy
 e:Zy
 f:Zy
 g:Zy
 h:Zy
def Qhb(v:V8)(k w:Zy):Zy:=v.h+bg1 v.e+((v.e &&& v.f) ^^^ (~~~v.e &&& v.g))+k+w
def Qdy(v:V8):Zy:=bg0 v.a+((v.a &&& v.b) ^^^ (v.a &&& v.c) ^^^ (v.b &&& v.c))
def rd(v:V8)(k w:Zy):V8:=⟨Qhb v k w+Qdy v,v.a,v.b,v.c,v.d+Qhb v k w,v.e,v.f,v.g⟩
def GR(K W:List Zy)(v:V8):Nat->V8
 | 0=>v
 | k+1=>rd (GR K W v k) (BG K k) (BG W k)
def V8.add(v u:V8):V8:=⟨v.a+u.a,v.b+u.b,v.c+u.c,v.d+u.d,v.e+u.e,v.f+u.f,v.g+u.g,v.h+u.h⟩
def pQ(K:List Zy)(b:Nat->Zy)(v:V8):V8:=v.add (GR K (M2 b 64) v 64)
theorem WG(b:Nat->Zy):∀k,(M2 b k).length=k
 | 0=>rfl
 | k+1=>by rw[M2,qc,WG b k];rfl
theorem CL{l:List Int}{s:List Zy}{k i:Nat}{x:Int}(h:l.take k=s.map iv)(hi:i < k)(hx:l[i]?=some x):x=iv (BG s i):=by
 have e:(l.take k)[i]?=some x:=by grind
 rw[h,wm] at e;obtain⟨y,h1,rfl⟩:=zJ.1 e;rw[BG,h1];rfl
theorem Nx{l:List Int}{s:List Zy}{k:Nat}{w:Zy}(h:l.take k=s.map iv)(hk:k < l.length):(l.set k (iv w)).take (k+1)=(s++[w]).map iv:=by
 rw[List.take_add_one,List.take_set_of_le (zQ k),h,List.getElem?_set_self hk,wW];rfl
end Go.EV
