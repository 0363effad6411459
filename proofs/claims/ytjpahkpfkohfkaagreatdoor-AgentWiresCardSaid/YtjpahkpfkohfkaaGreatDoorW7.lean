/- An iterator at its yield that keeps a variable of its own. A function that defers a closure: its contract from what stands ahead of the defer, what s ..; no conditions. -/
import Derived.Test.YtjpahkpfkohfkaaGreatDoorW6
import Derived.Test.YtjpahkpfkohfkaaGreatDoorW5
import Derived.RecoverIn
import Derived.Maps.RangeRun
import Derived.Laws.Externs
import Derived.KernelRfl
set_option linter.unusedVariables false
set_option linter.unusedSimpArgs false
namespace Go.EV
open Go
def plainV:V->Bool
 | .int _ _=>true
 | .bool _=>true
 | .str _=>true
 | _=>false
theorem Rep.plain{γ γ':Gh}{w w':World}{bs bs':ze}{u u':zf}{c:V}{v:Value}(h:Rep γ w bs u c v)(hp:plainV c=true):Rep γ' w' bs' u' c v:=by
 cases c with
 | int k n=>obtain rfl:=h.int_inv;exact .data (.int _ _)
 | bool b=>obtain rfl:=h.bool_inv;exact .data (.bool _)
 | str s=>obtain rfl:=h.str_inv;exact .data (.str _)
 | _=>simp[plainV] at hp
theorem plainV_own{c:V}(h:plainV c=true):c.isOwn=false:=by
 cases c<;>simp[plainV] at h<;>rfl
theorem Rep.reown{γ γ2:Gh}{w:World}{bs:ze}{u:zf}{c:V}{v:Value}(h:Rep γ w bs u c v)(hl:γ2.loc=γ.loc)(hm:γ2.lim=γ.lim):Rep γ2 w bs u c v:=by
 induction h with
 | data h=>exact .data (by grind)
 | undef v=>exact .undef v
 | ref b off len B o cap k h1 h2 h3 h4 h5 h6 h7=>exact .ref b off len B o cap k h1 (by grind) h3 h4 h5 h6 h7
 | refE b off B k h1 h6 h2=>exact .refE b off B k h1 h6 h2
 | refN b off k h1 h6 h2=>exact .refN b off k h1 h6 h2
 | deadRef b off len v h1 h2 h3=>exact .deadRef b off len v h1 h2 h3
 | ptr b i off B o k h1 h2 h3=>exact .ptr b i off B o k h1 (by grind) h3
 | mp b B k h1 h2 h3=>exact .mp b B k h1 (by grind) h3
 | deadMp b v h1 h2 h3=>exact .deadMp b v h1 h2 h3
 | deadPtr b i off v h1 h2 h3=>exact .deadPtr b i off v h1 h2 h3
 | fn f first captured fs cs h1 h2 _ _ ih1 ih2=>exact .fn f first captured fs cs h1 h2 ih1 ih2
 | agg cells vs h1 _ ih=>exact .agg cells vs h1 ih
 | tup cells vs h1 _ ih=>exact .tup cells vs h1 ih
def S4(c:Nat)(ti:Nat->V)(i:Nat):V:=match ti i with
 | .ptr b i o=>if b=c then .undef else .ptr b i o
 | x=>x
def D2(c:Nat)(k:Blk)(b:ze)(j:Nat):Option Blk:=if j=c then some k else b j
def L1(c:Nat)(j:Nat):Bool:=decide (j=c) || uTop j
theorem ext_keep{x:Ext}{c:Nat}{k:Blk}{bs:List (Nat×Blk)}(hx:x.bs=(c,k) :: bs)(h:(bs.all λp=>decide (1000000<=p.1))=true)(n:Nat):(x.D n).st=⟨n,tOf x.ts,D2 c k (ofL bs),L1 c⟩:=by
 have hu:(λi=>x.us.contains i || uTop i)=L1 c:=funext λi=>by
  unfold L1
  by_cases e:i=c
  ·grind [Ext.us]
  ·have:x.us.contains i=true->uTop i=true:=λhc=>by
    simp only[Ext.us,hx,zW,wc,zT,zG] at hc
    rcases hc with hc|hc
    ·grind
    ·obtain⟨p,hp,rfl⟩:=zF.1 hc
     exact zH.1 h p hp
   grind
 have hb:ofL x.bs=D2 c k (ofL bs):=funext (by grind [D2,ofL])
 show (⟨n,tOf x.ts,ofL x.bs,λi=>x.us.contains i || uTop i⟩:St)=_
 rw[hu,hb]
section
variable {P:Program} {G:zd} {L:YL} {l:Nat}
theorem K6.yieldK{x0:Exit}{c ni:Nat}{k:Blk}{ti:Nat->V}{b:ze}{Q:Exit->YS->Prop}{ops:Array Oper}{i:Nat}{is:List Nat}{o:Oper}{x:Operand}{xs:Array Operand}{ts:Array TypeId}{cs:List V}{R:Exit->(ze)->Prop}
  (hi:ops[i]?=some o) (hgd:D7 ops (E1 ni (S4 c ti) b) o=some true)
  (ho:o.op=.call { callee:=.value x,args:=xs,argTypes:=ts }) (hx:(E1 ni (S4 c ti) b).ev G x=some (.yld l)) (hcs:evs ((E1 ni (S4 c ti) b).ev G) xs.toList=some cs) (hdst:H7 ni o.dst=true)
  (hsx:x0=.normal) (hti:∀i,okV I9 (S4 c ti i)=true) (ht:∀i,okV I9 (L.t i)=true) (hpn:∀p,p∈L.ps.toList->p < L.n) (hps:cs.length=L.ps.size)
  (hr:RoundT P G L.n L.t L.ps.toList L.assign L.body b cs R) (hR:∀e b',R e b'->e=.normal\/e=.ret\/∃id,e=.exit id)
  (hc:I9 c=false) (hct:uTop c=false) (hbk:∀j q,b j=some q->q.size < J8/\okL uTop q.rows.flatten=true) (hM:k.size < J8) (hb:b c=none) (hbt:∀j q,b j=some q->uTop j=true) (hb':∀e b',R e b'->b' c=none) (hk:∀r,r∈k.rows->∀v,v∈r->plainV v=true) (hrow:0 < k.rows.length)
  (hn:∀e b',R e b'->K6 P G L l ops is ⟨e,(⟨ni,ti,D2 c k b',L1 c⟩:St).put o.dst (.bool (P2 e).isNone)⟩ Q):K6 P G L l ops (i :: is) ⟨x0,⟨ni,ti,D2 c k b,L1 c⟩⟩ Q:=λfn γ0 w0 b0 D Ds sz te γ a w he hs hd=>by
 subst hsx
 simp only[wpOpsIn,hi]
 have hkc:D2 c k b c=some k:=by simp[D2]
 have hat:BlkAt γ w (D2 c k b) (L1 c) c k:=by
  rcases hs.b c k hkc with⟨h0,h1⟩|hm|ha
  ·grind
  ·exact(hm.small hM).elim
  ·exact ha
 obtain⟨_,B,of,cells,el,g1,g2,g3,g4,g5,g6,g7,g8⟩:=hat
 have hBlt:B < w.heap.size:=g3.lt
 let γ1:Gh:={ loc:=γ.loc,own:=λX=>if X=B then none else γ.own X,lim:=γ.lim }
 have gr:Grow γ w γ1 w:=⟨rfl,rfl,rfl,zD _,λ_ _ _ _ h=>h,λ_ _=>zD _,(by grind),(by grind)⟩
 have pn:Pin γ (D2 c k b) (L1 c) γ1 b uTop:=λj hj=>by
  have hjc:j≠c:=(by grind)
  refine⟨λ_=>uPin_top hj,(by grind [D2]),λq hq=>⟨uPin_top hj,.inr ⟨q,by grind [D2],rfl,λ_=>rfl,rfl⟩⟩⟩
 have ownB:∀X t,γ.own X=some t->X≠B->γ1.own X=some t:=(by grind)
 have keepok:∀j q,b j=some q->j≠c:=(by grind)
 have shr:∀j,b j=none\/b j=D2 c k b j:=(by grind [D2])
 have repl:∀(v:V) (y:Value),Rep γ w (D2 c k b) (L1 c) v y->okV uTop v=true->Rep γ1 w b uTop v y:=λv y h hv=>(h.shrink shr hv).reown rfl rfl
 have pinTop:∀v,okV I9 v=true->okV uTop v=true:=(by grind [O4,uPin_top])
 have hs1:Sim G γ1 (E1 ni (S4 c ti) b) a.tmps w:=by
  refine⟨hs.n,λi=>?_,λj q hq=>?_,λj q hq=>hbt j q hq,hs.g,λX t hX=>?_⟩
  ·have h:=hs.t i
   have hp:=hti i
   show Rep γ1 w b uTop (S4 c ti i) _
   cases ht':ti i with
   | ptr b1 i1 o1=>
    have e:S4 c ti i=if b1=c then .undef else .ptr b1 i1 o1:=by unfold S4;rw[ht']
    rw[e] at hp ⊢
    by_cases hb1:b1=c
    ·rw[if_pos hb1];exact .undef _
    grind
   | _=>
    grind [S4]
  ·replace hq:b j=some q:=hq
   have hjc:=keepok j q hq
   obtain⟨hz,hrefs⟩:=hbk j q hq
   rcases hs.b j q (by grind) with h0|hm|⟨hM2,B2,o2,cs2,e2,a1,a2,a3,a4,a5,a6,a7,a8⟩
   ·exact .inl h0
   ·exact(hm.small hz).elim
   ·have hne:B2≠B:=(by grind)
    refine .inr (.inr ⟨hM2,B2,o2,cs2,e2,a1,ownB _ _ a2 hne,a3,a4,a5,λi v hv=>?_,a7,a8⟩)
    obtain⟨y,b1,b2,b3,b4⟩:=a6 i v hv
    exact⟨y,b1,repl _ _ b2 (C3 hrefs hv),b3,b4.mono (by grind)⟩
  ·have hX':(if X=B then none else γ.own X)=some t:=hX
   split at hX'
   ·cases hX'
   ·exact hs.o X t hX'
 have he1:=he.step gr pn
 have hd1:=hd.grow gr
 have hw:Region.wanted o (yielded ops a.tmps)=true:=E5 hs1 hgd
 rw[if_pos hw]
 have hlB:l≠B:=λe=>by
  have h1:=he.own
  grind
 refine yield_op ho hx hcs hs1 hti ht hpn he1 hps hr hR hd1 λe b' γ' w' h1 h2 h3 h4 h5=>?_
 have h5l:∀B,B < w.heap.size->γ1.own B=none->B≠l->γ'.lim B=γ.lim B:=(by grind)
 obtain⟨f1,f2,_⟩:=h5 B hBlt (by simp[γ1]) (Ne.symm hlB)
 let γ2:Gh:={ loc:=λj=>if j=c then some (B,of) else γ'.loc j,own:=λX=>if X=B then some (.blk c) else γ'.own X,lim:=γ'.lim }
 have hb2:=hb' e b' h1
 have keepok2:∀j q,b' j=some q->j≠c:=(by grind)
 have ble:L7 γ' b' uTop { γ2 with own:=γ'.own } (D2 c k b') (L1 c):=by
  refine⟨(by grind [L1]),λj hj hn=>?_,λj q hq=>⟨by have h9:uTop j=true:=h3.u j q hq;simp[L1,h9],.inr ⟨q,by grind [D2],rfl,λ_=>rfl,by grind⟩⟩⟩
  grind [D2]
 have gr2:Grow γ' w' { γ2 with own:=γ'.own } w':=⟨rfl,rfl,rfl,zD _,λ_ _ _ _ h=>h,λ_ _=>zD _,(by grind),(by grind)⟩
 have repl2:∀(v:V) (y:Value),Rep γ' w' b' uTop v y->Rep γ2 w' (D2 c k b') (L1 c) v y:=λv y h=>(h.mono gr2 ble).reown rfl rfl
 have own2:∀X t,γ'.own X=some t->γ2.own X=some t:=(by grind)
 have hrow3:E7 w' B cells el:=g3.of_eq f1
 have hs2:Sim G γ2 ⟨ni,ti,D2 c k b',L1 c⟩ a.tmps w':=by
  refine⟨hs.n,λi=>?_,λj q hq=>?_,λj q hq=>?_,h3.g,λX t hX=>?_⟩
  ·have h:=h3.t i
   show Rep γ2 w' (D2 c k b') (L1 c) (ti i) _
   have h':Rep γ' w' b' uTop (S4 c ti i) (a.tmps.getD i undef):=h
   cases ht':ti i with
   | ptr b1 i1 o1=>
    have e:S4 c ti i=if b1=c then .undef else .ptr b1 i1 o1:=by unfold S4;rw[ht']
    rw[e] at h'
    by_cases hb1:b1=c
    ·have hold:=hs.t i
     have hold':Rep γ w (D2 c k b) (L1 c) (ti i) (a.tmps.getD i undef):=hold
     rw[ht',hb1] at hold'
     obtain⟨B9,o9,hv9,hl9⟩:=hold'.ptr_inv hkc
     rw[g1] at hl9
     simp only[zp,zJ] at hl9
     obtain⟨rfl,rfl⟩:=hl9
     rw[hb1,hv9]
     exact .ptr c i1 o1 B of k (by simp[D2]) (by simp[γ2]) hM
    grind
   | _=>
    grind [S4]
  ·by_cases e:j=c
   ·rw[e] at hq ⊢
    have hq':k=q:=by simpa[D2] using hq
    rw[<-hq']
    refine .inr (.inr ⟨hM,B,of,cells,el,by simp[γ2],by simp[γ2],hrow3,g4,g5,λi v hv=>?_,λhx=>?_,?_⟩)
    ·obtain⟨y,b1,b2,b3,_⟩:=g6 i v hv
     have hpl:plainV v=true:=by
      obtain⟨r,hr1,hr2⟩:=wN.1 (zO hv)
      grind
     exact⟨y,b1,b2.plain hpl,b3,.of_not_own (plainV_own hpl)⟩
    ·grind
    grind
   ·have hq':b' j=some q:=by grind [D2]
    rcases h3.b j q hq' with⟨z0,z1⟩|hm|⟨hM2,B2,o2,cs2,e2,a1,a2,a3,a4,a5,a6,a7,a8⟩
    ·exact .inl (by grind)
    ·exact .inr (.inl (hm.same (by simp[γ2,e]) (by grind) λv y hr=>repl2 v y hr))
    ·refine .inr (.inr ⟨hM2,B2,o2,cs2,e2,by simpa[γ2,e] using a1,own2 _ _ a2,a3,a4,a5,λi v hv=>?_,a7,a8⟩)
     obtain⟨y,b1,b2,b3,b4⟩:=a6 i v hv
     exact⟨y,b1,repl2 _ _ b2,b3,b4.mono λX hX=>⟨own2 X _ hX,zD _⟩⟩
  ·by_cases e:j=c
   ·simp[L1,e]
   ·have hq':b' j=some q:=by simpa[D2,e] using hq
    have:=h3.u j q hq'
    show L1 c j=true
    unfold L1;simp[show uTop j=true from this]
  ·have hX':(if X=B then some (K0.blk c) else γ'.own X)=some t:=hX
   split at hX'
   ·rename_i e;rw[e];exact hrow3.lt
   ·exact h3.o X t hX'
 have he2:Env G L γ0 w0 b0 l D Ds sz te (X6 fn te L.ps L.assign L.body D e) γ2 (D2 c k b') (L1 c) w':=by
  refine⟨h2.sim0,⟨h2.grow.os,h2.grow.tape,h2.grow.output,h2.grow.size,h2.grow.imm,h2.grow.lim,λX hX hn=>?_,h2.grow.room⟩,λj hj=>?_,h2.loop,?_,h2.lo,λE hE=>?_⟩
  ·obtain⟨q1,q2,q3⟩:=h2.grow.free X hX hn
   refine⟨q1,?_,q3⟩
   have:X≠B:=λe=>by
    have:=(he.grow.free X hX hn).2.1
    rw[e,g2] at this;cases this
   simp[γ2,this,q2]
  ·have hjc:j≠c:=λe=>by rw[e,hc] at hj;cases hj
   obtain⟨p1,p2,p3⟩:=h2.pin j hj
   refine⟨λh=>by simp[L1,p1 h],λh hn=>by simpa[D2,hjc] using p2 h hn,λq hq=>?_⟩
   obtain⟨r1,r2⟩:=p3 q hq
   refine⟨by simp[L1,r1],?_⟩
   rcases r2 with r2|⟨k',r2,r3,r4,r5⟩
   ·exact .inl (by simpa[D2,hjc] using r2)
   ·exact .inr ⟨k',by simpa[D2,hjc] using r2,r3,r4,by simpa[γ2,hjc] using r5⟩
  ·show (if l=B then some (K0.blk c) else γ'.own l)=none
   rw[if_neg hlB];exact h2.own
  ·obtain⟨q1,q2,q3⟩:=h2.dfr E hE
   refine⟨q1,?_,q3⟩
   have:E≠B:=λe=>by
    have:=(he.dfr E hE).2.1
    rw[e,g2] at this;cases this
   show (if E=B then some (K0.blk c) else γ'.own E)=none
   rw[if_neg this];exact q2
 have hd2:X8 sz γ2 w' a.defers:=by
  obtain⟨Es,m1,m2,m3⟩:=h4
  obtain⟨Es',m1',_,m3'⟩:=hd
  refine⟨Es,m1,m2,λE hE=>?_⟩
  obtain⟨q1,q2,q3⟩:=m3 E hE
  refine⟨q1,q2,?_⟩
  have:E≠B:=λe=>by
   obtain⟨fz,hh,_⟩:=hrow3
   rw[e,hh] at q2;cases q2
  show (if E=B then some (K0.blk c) else γ'.own E)=none
  rw[if_neg this];exact q3
 have pu:((⟨ni,ti,D2 c k b',L1 c⟩:St).put o.dst (.bool (P2 e).isNone)).b=D2 c k b'/\((⟨ni,ti,D2 c k b',L1 c⟩:St).put o.dst (.bool (P2 e).isNone)).u=L1 c:=by
  cases o.dst<;>exact⟨rfl,rfl⟩
 exact hn e b' h1 fn γ0 w0 b0 D Ds sz te γ2 _ w' (by rw[pu.1,pu.2];exact he2) (hs2.put hdst (.data (.bool _))) (by rw[U9];exact hd2)
end
def CallD(P:Program)(G:zd)(f:FuncId)(args:List V)(ins:ze)(u u':FrameMode)(outs:ze):Prop:=
 ∀(γ:Gh) (w:World) (as:Array Value),V3 G γ w->(∀B x,γ.own B=some x->B < w.heap.size)->U3 γ w ins uTop args as->
  (∀b k,ins b=some k->uTop b=true/\L4 γ w ins uTop b k)->
  CallsDIn (RF none) 0 P f as u w λe u2 w'=>u2=u'/\∃v γ',e=.returned v/\Grow γ w γ' w'/\Pin γ ins uTop γ' outs (λ_=>true)/\
   (∀b k,outs b=some k->L4 γ' w' outs (λ_=>true) b k)/\(∀B x,γ'.own B=some x->B < w'.heap.size)
theorem Rep.ptr_pin{γ γ':Gh}{w w':World}{bs bs':ze}{u u':zf}{b i o:Nat}{v:Value}{k:Blk}(h:Rep γ w bs u (.ptr b i o) v)(hk:bs b=some k)(hb:I9 b=true)(p:Pin γ bs u γ' bs' u') :
  Rep γ' w' bs' u' (.ptr b i o) v:=by
 obtain⟨B,off,rfl,hl⟩:=h.ptr_inv hk
 have hM:=h.ptr_small hk
 obtain⟨h1,h2⟩:=(p b hb).2.2 k hk
 rcases h2 with h2|⟨k',q1,q2,_,q4⟩
 ·exact .deadPtr b i o _ h2 h1 rfl
 ·have:=Rep.ptr (γ:=γ') (w:=w') (u:=u') b i o B off k' q1 (q4.trans hl) (by grind)
  grind
theorem bsLe_of_pin{γ γ':Gh}{ins outs:ze}(p:Pin γ ins uTop γ' outs (λ_=>true))(h1:∀b k,ins b=some k->I9 b=true)(h2:∀b k,outs b=some k->I9 b=true):L7 γ ins uTop γ' outs (λ_=>true):=by
 refine⟨λ_ _=>rfl,λb hb hn=>?_,λb k hk=>(p b (h1 b k hk)).2.2 k hk⟩
 cases ho:outs b with
 | none=>rfl
 | some k=>have:=(p b (h2 b k ho)).2.1 hb hn;grind
theorem Grow.unshift{γ γ1:Gh}{w w':World}(h:Grow γ.shift w γ1 w'):Grow γ w γ1.unshift w':=by
 have none1:∀B,γ1.own B=none->γ1.unshift.own B=none:=(by grind [Gh.unshift])
 refine⟨h.os,h.tape,h.output,h.size,h.imm,h.lim,λB hB hn=>?_,h.room⟩
 obtain⟨a1,a2,a3⟩:=h.free B hB (by grind [Gh.shift])
 exact⟨a1,none1 B a2,a3⟩
section
variable {P:Program} {G:zd}
def Ahead(P:Program)(G:zd)(Qg:Exit->St->Prop):List Code->St->Prop
 | [],st=>Rel P G Qg .normal st
 | a :: as,st=>TV P G a st (Qx P G Qg (as.map Kf.seq))
theorem Qx_seqs{Qg:Exit->St->Prop}{e:Exit}{st:St}(he:e≠.normal):∀{as:List Code},Qx P G Qg (as.map Kf.seq) e st->Qg e st
 | [],h=>h
 | a :: as,h=>by
  simp only[zW,Qx] at h
  cases e with
  | normal=>grind
  | _=>exact Qx_seqs he (as:=as) h
theorem chain_cw{Qg:Exit->St->Prop}{rest:Code}{Post:Exit->Act->World->Prop}:∀(As:List Code) (st:St),Ahead P G Qg As st->∀(fx:Fx) (γ:Gh) (a:Act) (w:World),Sim G γ st a.tmps w->FxOk fx γ a.defers w->
  (∀e a' w',L6 G fx γ st w Qg e a' w'->(e=.normal->CW fx.ro P rest Post a' w')/\(e≠.normal->Post e a' w'))->CW fx.ro P (As.foldr Code.seq rest) Post a w
 | [],st,h,fx,γ,a,w,hs,hd,K=>(K .normal a w (h fx γ a w hs hd.1)).1 rfl
 | c :: as,st,h,fx,γ,a,w,hs,hd,K=>by
  refine wpIn_seq (wpIn_mono (h fx γ a w hs hd) λe a' w' hl=>?_)
  by_cases he:e=.normal
  ·subst he
   show CW fx.ro P (as.foldr Code.seq rest) Post a' w'
   obtain⟨st',γ',h1,h2,h3,h4⟩:=hl
   refine chain_cw as st' ?_ ⟨fx.ro,a'.defers,fx.mx⟩ γ' a' w' h1 (hd.step h2.1) λe2 a2 w2 hl2=>K e2 a2 w2 (hl2.grow2 h2 h3)
   cases as with
   | nil=>exact Rel.of (P:=P) h4
   | cons b bs=>exact h4
  ·have hp:=(K e a' w' (by
    obtain⟨st',γ',h1,h2,h3,h4⟩:=hl
    exact⟨st',γ',h1,h2,h3,Qx_seqs he h4⟩)).2 he
   cases e with
   | normal=>grind
   | _=>exact hp
def Left(u:FrameMode)(ex:Exit):Prop:=(ex=.ret/\u=.returning)\/(ex=.normal/\u=.returning)\/∃ch,ex=.panic ch/\u=.panicking ch
theorem callC_defer{f g:FuncId}{fn:Func}{As:List Code}{rest:Code}{rid t n:Nat}{o0 o1:Oper}{args caps:List V}{ins insD outsD:ze}{S0 S1 S2:St}{ex:Exit}{u u':FrameMode}{res:V}
  (hf:P.funcs[f]?=some fn) (hb:fn.body=some (As.foldr Code.seq (.seq (.region rid #[o0,o1] false) rest))) (hn:n=max fn.ntmps args.length)
  (hA:Ahead P G (λe s=>e=.normal/\Gst G s S0) As (entry n args ins)) (hsh:Gst G S0.shift S1)
  (h0:G1 P G o0 S1 (S1.put (some t) (.fn g [] caps))) (hg0:D7 #[o0,o1] S1 o0=some true)
  (h1:o1.op=.defer { callee:=.value (.tmp t),args:=#[],argTypes:=#[] }) (h1d:o1.dst=none) (hg1:D7 #[o0,o1] (S1.put (some t) (.fn g [] caps)) o1=some true)
  (hB:TV P G rest (S1.put (some t) (.fn g [] caps)) (λe s=>e=ex/\Gst G s S2)) (hex:Left u ex)
  (hcap:∀c,c∈caps->∃b k,c=.ptr b 0 0/\I9 b=true/\S1.b b=some k) (ht:t < S1.n)
  (hS2:S2.b=insD/\S2.u=uTop) (hpin:(∀b k,insD b=some k->I9 b=true)/\∀b k,outsD b=some k->I9 b=true)
  {fg:Func} (hfg:P.funcs[g]?=some fg) (hfgb:fg.body.isSome=true) (hfgn:(fg.name== "runtime.NumGoroutine")=false)
  (hD:CallD P G g caps insD u u' outsD) (hu':settle u'=.returning)
  (hres:G9 P ⟨S2.n,S2.t,outsD,λ_=>true⟩ fn.results.toList=some res) (hflat:∀(γ:Gh) (w:World) v,Rep γ w outsD (λ_=>true) res v->Rep γ.unshift w noB (λ_=>true) res v) :
  CallC P G f args ins res noB:=by
 intro γ w as hg ho ha hbl
 have hsz:as.size=args.length:=ha.1
 have hs:Sim G γ (entry n args ins) (as++Array.replicate (fn.ntmps - as.size) undef) w:=by
  refine⟨by grind [Array.size_append,Array.size_replicate,entry],λi=>?_,λb k hk=>(hbl b k hk).2,λb k hk=>(hbl b k hk).1,hg,ho⟩
  show Rep γ w ins uTop (args.getD i .undef) _
  by_cases hi:i < args.length
  ·have e1:args.getD i .undef=args[i]:=by grind
   have e2:(as++Array.replicate (fn.ntmps - as.size) undef).getD i undef=as[i]'(by omega):=by
    simp_all [wH,Array.getElem?_append_left,wl]
   rw[e1,e2]
   exact ha.2 i _ _ (by grind) (by grind)
  ·have e1:args.getD i .undef=.undef:=by grind
   rw[e1];exact .undef _
 refine(callsIn_wide (n:=0)).1 (callsIn_of_wp_marks hf hb trivial ?_)
 refine chain_cw As _ hA ⟨none,[],true⟩ γ ⟨_,[]⟩ w hs ⟨rfl,rfl,λ_ h=>by simp at h⟩ λe a1 w1 hl=>⟨λhe=>?_,λhe=>?_⟩
 rotate_left
 ·obtain⟨_,_,_,_,_,q,_⟩:=hl;grind
 subst he
 obtain⟨s1,γ0,k1,⟨g1,p1⟩,⟨Ds,_,m1,m2,m3⟩,_,gs⟩:=hl
 obtain⟨γ1,k2,g2,_⟩:=gs γ0 a1.tmps w1 k1
 obtain⟨γ1',k2',g2',_⟩:=hsh γ1.shift a1.tmps w1 k2.shift
 simp only[wE] at m1
 refine wpIn_seq (wpIn_region ?_)
 have hr:List.range (#[o0,o1]:Array Oper).size=[0,1]:=rfl
 rw[hr]
 simp only[wpOpsIn,show (#[o0,o1]:Array Oper)[0]?=some o0 from rfl,show (#[o0,o1]:Array Oper)[1]?=some o1 from rfl]
 rw[if_pos (E5 k2' hg0)]
 refine op_in (h0 ⟨none,a1.defers,false⟩ γ1' a1 w1 k2' rfl _ _ (by grind)) (h0 ⟨none,a1.defers,true⟩ γ1' a1 w1 k2' rfl _ _ λa2 w2 γ2 k3 g3 p3 d3=>?_)
 rw[if_pos (E5 k3 hg1)]
 have hv:Rep γ2 w2 (S1.put (some t) (.fn g [] caps)).b (S1.put (some t) (.fn g [] caps)).u (.fn g [] caps) (a2.eval (.tmp t)):=by
  have:=k3.t t
  have e:(S1.put (some t) (.fn g [] caps)).t t=.fn g [] caps:=by simp[St.put,St.setT]
  rw[e] at this;exact this
 obtain⟨fs,cv,hval,hf0,hcl,_,hcv⟩:=hv.fn_inv
 have hfs:fs=[]:=(by grind)
 subst hfs
 let d:Deferred:={ target:=.fn (.func g) cv.toArray,args:=#[] }
 refine⟨λ_ _=>trivial,?_⟩
 have hrun:(execOp a2.eval o1).run P w2=.ok (.defer d) w2:=by
  grind [Sem.run_bind,Sem.run_pure,Result.andThen_ok,execOp,resolve,pure,Deferred.ofValue]
 show o1.uponIn (RF none) 0 P a2 _ _ ((o1.semAt none a2.eval).run P w2)
 rw[Oper.semAt_none,hrun]
 show rest.wpIn (RF none) 0 P _ ({ a2 with defers:=d :: a2.defers }.put o1.dst undef) w2
 rw[h1d]
 show rest.wpIn (RF none) 0 P _ ({ a2 with defers:=d :: a2.defers }:Act) w2
 refine wpIn_mono (hB ⟨none,d :: a2.defers,true⟩ γ2 { a2 with defers:=d :: a2.defers } w2 k3 (FxOk.free _ _)) λe a4 w4 hl=>?_
 obtain⟨s4,γ3,k4,⟨g4,p4⟩,⟨Ds4,_,n1,n2,n3⟩,rfl,gs4⟩:=hl
 obtain⟨γ4,k5,g5,p5⟩:=gs4 γ3 a4.tmps w4 k4
 have key:LeavesInM (RF none) 0 P fn a4.tmps (λe w'=>∃v γ',e=.returned v/\Grow γ w γ' w'/\Pin γ ins uTop γ' noB (λ_=>true)/\Rep γ' w' noB (λ_=>true) res v/\
   (∀b k,noB b=some k->L4 γ' w' noB (λ_=>true) b k)/\(∀B x,γ'.own B=some x->B < w'.heap.size)) a4.defers u w4:=by
  rw[n1]
  have hur:u≠.run:=by
   rcases hex with⟨_,h⟩|⟨_,h⟩|⟨_,_,h⟩<;>rw[h]<;>simp
  refine C4 hur (λw5=>Sim G γ4 S2 a4.tmps w5/\Grow γ2 w2 γ4 w5) (λw5 hI=>?_) Ds4 w4 ⟨k5,g4.trans g5⟩ n2 (λD hD=>(n3 D hD).2.1) λD w5 hD hI hd=>
   ⟨(Y5.put hd rfl).sim hI.1,hI.2.put hd rfl (n3 D hD).1⟩
  obtain⟨i1,i2⟩:=hI
  have hinv:(invoke d.target d.args).run P w5=.ok (.enter g cv.toArray) w5:=by
   show (callFunc g (#[]++cv.toArray)).run P w5=_
   have hname':¬fg.name= "runtime.NumGoroutine":=by grind
   have hbody':¬fg.body=none:=(by grind)
   simp_all [callFunc]
  refine⟨hur,.inr ⟨(by grind [RF,Fence.wide]),.func g,cv.toArray,g,cv.toArray,rfl,hinv,λ_ _=>trivial,?_⟩⟩
  have ptot:=p4.trans p5
  rw[hS2.1,hS2.2] at ptot
  have hcells:U3 γ4 w5 insD uTop caps cv.toArray:=⟨by grind,λi c v hc hvv=>by
   obtain⟨b,k,rfl,c2,c3⟩:=hcap c (zO hc)
   have hrep:=hcv i _ v hc (by simpa using hvv)
   exact(Rep.ptr_pin (w':=w5) hrep (k:=k) c3 c2 ptot)⟩
  have hblk:∀b k,insD b=some k->uTop b=true/\L4 γ4 w5 insD uTop b k:=λb k hk=>by
   refine⟨uPin_top (hpin.1 b k hk),?_⟩
   have:=i1.b b k (by grind)
   grind
  refine(hD γ4 w5 cv.toArray i1.g i1.o hcells hblk).mono λe u2 w6 hR=>?_
  obtain⟨rfl,v6,γ5,rfl,g6,p6,b6,o6⟩:=hR
  show LeavesInM (RF none) 0 P fn a4.tmps _ a2.defers (settle u2) w6
  rw[hu',show a2.defers=Ds.map markD from d3.trans m1]
  have gall:Grow γ0 w1 γ5.unshift w6:=g2.trans (g2'.trans (g3.trans (i2.trans g6))).unshift
  have ble:=bsLe_of_pin p6 hpin.1 hpin.2
  have hsim:Sim G γ5 ⟨S2.n,S2.t,outsD,λ_=>true⟩ a4.tmps w6:=by
   refine⟨i1.n,λi=>?_,λb k hk=>b6 b k hk,λ_ _ _=>rfl,i1.g.grow g6,o6⟩
   have:=i1.t i
   rw[hS2.1,hS2.2] at this
   exact this.mono g6 ble
  refine V9 (λw7=>Sim G γ5 ⟨S2.n,S2.t,outsD,λ_=>true⟩ a4.tmps w7/\Grow γ w γ5.unshift w7) (λw7 hI=>?_) Ds w6 ⟨hsim,g1.trans gall⟩ m2 (λD hD=>?_) λD w7 hD hI hd=>
   ⟨(Y5.put hd rfl).sim hI.1,hI.2.put hd rfl (m3 D hD).1⟩
  ·obtain⟨j1,j2⟩:=hI
   obtain⟨v,hv,hrep⟩:=run_resultsV (P:=P) j1 hres
   exact⟨v,hv,v,γ5.unshift,rfl,j2,λb _=>⟨λ_=>rfl,λ_ _=>rfl,λ_ _=>⟨rfl,.inl rfl⟩⟩,hflat _ _ _ hrep,(by grind [noB]),λB x hx=>by
    simp only[Gh.unshift] at hx
    obtain⟨y,hy,_⟩:=zL.1 hx
    exact j1.o B y hy⟩
  ·obtain⟨_,q1,q2⟩:=m3 D hD
   exact(gall.free D (wk.1 q1).1 q2).1.trans q1
 rcases hex with⟨rfl,h⟩|⟨rfl,h⟩|⟨ch,rfl,h⟩
 ·subst h;exact key
 ·subst h;exact key
 ·subst h;exact key
theorem marks_steps(I:World->Prop):∀(Ds:List Nat) (fr:Frame) (cs:List Frame) (w:World),fr.mode≠.run->fr.defers=Ds.map markD->I w->Ds.Nodup->(∀D,D∈Ds->w.heap[D]?=some (.deferred (some [])))->
  (∀D w,D∈Ds->I w->w.heap[D]?=some (.deferred (some []))->I (w.putObj D (.deferred none)))->
  ∃w',I w'/\StepsIn (Machine.fenced P (RF none)) P (lone fr cs w) (lone { fr with defers:=[] } cs w')
 | [],fr,cs,w,_,hd,hI,_,_,_=>by
  refine⟨w,hI,?_⟩
  have:{ fr with defers:=[] }=fr:=by cases fr;grind
  rw[this];exact .refl _
 | D :: Ds,fr,cs,w,hm,hd,hI,hn,hh,hp=>by
  have hn':=List.nodup_cons.1 hn
  have h1:=step_collected (cs:=cs) hm (d:=markD D) (ds:=Ds.map markD) (by simpa using hd) rfl (run_takeDeferred (P:=P) (hh D (by simp)))
  obtain⟨w',k1,k2⟩:=marks_steps I Ds { fr with defers:=[]++Ds.map markD } cs (w.putObj D (.deferred none)) hm (by simp) (by grind) hn'.2 (by grind [World.putObj_heap_other]) (by grind)
  exact⟨w',k1,.head (RF.fenced _ _ _) h1 k2⟩
def Recovers(u:FrameMode)(rv:Value)(u':FrameMode):Prop:=
 (u=.returning/\rv=.nilIface/\u'=.returning)\/∃v older,u=.panicking ({ v:=v,recovered:=false } :: older)/\rv=v/\u'=.panicking ({ v:=v,recovered:=true } :: older)
theorem callD_body{f:FuncId}{fn:Func}{rest:Code}{rid t1 t2 n:Nat}{o0 o1:Oper}{args:List V}{ins outs:ze}{u u':FrameMode}{rv:Value}
  (hf:P.funcs[f]?=some fn) (hb:fn.body=some (.seq (.region rid #[o0,o1] false) rest)) (hn:n=max fn.ntmps args.length)
  (h0:o0.op=.call { callee:=.builtin .recover,args:=#[],argTypes:=#[] }) (h0d:o0.dst=some t1) (h0g:o0.guard=none)
  (h1:o1.op=.assign (.tmp t1)) (h1d:o1.dst=some t2) (h1g:o1.guard=none) (ht1:t1 < n) (ht2:t2 < n)
  (hi:isIfc rv=true) (hr:Recovers u rv u') (hres:fn.results=#[])
  (hB:TV P G rest (((entry n args ins).put (some t1) (.ifc rv)).put (some t2) (.ifc rv)) (λe s=>(e=.normal\/e=.ret)/\∃s2,Gst G s s2/\∀b k,outs b=some k->s2.b b=some k)) :
  CallD P G f args ins u u' outs:=by
 intro γ w as hg ho ha hbl
 have hsz:as.size=args.length:=ha.1
 have hs:Sim G γ (entry n args ins) (as++Array.replicate (fn.ntmps - as.size) undef) w:=by
  refine⟨by grind [Array.size_append,Array.size_replicate,entry],λi=>?_,λb k hk=>(hbl b k hk).2,λb k hk=>(hbl b k hk).1,hg,ho⟩
  show Rep γ w ins uTop (args.getD i .undef) _
  by_cases hi:i < args.length
  ·have e1:args.getD i .undef=args[i]:=by grind
   have e2:(as++Array.replicate (fn.ntmps - as.size) undef).getD i undef=as[i]'(by omega):=by
    simp_all [wH,Array.getElem?_append_left,wl]
   rw[e1,e2]
   exact ha.2 i _ _ (by grind) (by grind)
  ·have e1:args.getD i .undef=.undef:=by grind
   rw[e1];exact .undef _
 refine⟨trivial,λc₀ cs hu hroom=>?_⟩
 let a0:Act:=⟨as++Array.replicate (fn.ntmps - as.size) undef,[]⟩
 let a1:Act:=a0.put (some t1) rv
 let a2:Act:=a1.put (some t2) rv
 let b:Frame:={ (default:Frame) with fn:=f,kind:=.deferred,roundOf:=none }
 have henter:Frame.enter P f as .deferred=b.atR a0 [.code (.seq (.region rid #[o0,o1] false) rest)]:=by
  grind [Frame.enter,Frame.atR]
 have hs1:Sim G γ ((entry n args ins).put (some t1) (.ifc rv)) a1.tmps w:=hs.put (dst:=some t1) (by grind [H7,entry]) (.data (.ifc rv hi))
 have hs2:Sim G γ (((entry n args ins).put (some t1) (.ifc rv)).put (some t2) (.ifc rv)) a2.tmps w:=hs1.put (dst:=some t2) (by grind [H7,entry,St.put,St.setT]) (.data (.ifc rv hi))
 have e0:(execOp a0.eval o0).run P w=.ok .recover w:=by
  unfold execOp;rw[h0];rfl
 have ev1:a1.eval (.tmp t1)=rv:=by
  show a1.tmps.getD t1 undef=rv
  have hlt:t1 < a0.tmps.size:=by
   grind
  show (a0.tmps.setIfInBounds t1 rv).getD t1 undef=rv
  simp_all
 have e1:(execOp a1.eval o1).run P w=.ok (.value rv) w:=by
  grind [Sem.run_pure,execOp]
 have w0:∀a:Act,Region.wanted o0 (yielded #[o0,o1] a.tmps)=true:=(by grind [Region.wanted])
 have w1:∀a:Act,Region.wanted o1 (yielded #[o0,o1] a.tmps)=true:=(by grind [Region.wanted])
 let c1:Frame:={ c₀ with mode:=u' }
 have hw:Code.wpSIn (RF none) 0 P (.seq (.region rid #[o0,o1] false) rest) (λe a' cs' w'=>cs'=c1 :: cs/\L6 G ⟨none,[],true⟩ γ (((entry n args ins).put (some t1) (.ifc rv)).put (some t2) (.ifc rv)) w (λe s=>(e=.normal\/e=.ret)/\∃s2,Gst G s s2/\∀b k,outs b=some k->s2.b b=some k) e a' w') a0 (c₀ :: cs) w:=by
  refine wpSIn_seq (wpSIn_region ?_)
  show wpOpsSIn (RF none) 0 P #[o0,o1] _ [0,1] a0 (c₀ :: cs) w
  have tail:wpOpsSIn (RF none) 0 P #[o0,o1] (Exit.thenS (rest.wpSIn (RF none) 0 P (λe a' cs' w'=>cs'=c1 :: cs/\L6 G ⟨none,[],true⟩ γ (((entry n args ins).put (some t1) (.ifc rv)).put (some t2) (.ifc rv)) w (λe s=>(e=.normal\/e=.ret)/\∃s2,Gst G s s2/\∀b k,outs b=some k->s2.b b=some k) e a' w')) (λe a' cs' w'=>cs'=c1 :: cs/\L6 G ⟨none,[],true⟩ γ (((entry n args ins).put (some t1) (.ifc rv)).put (some t2) (.ifc rv)) w (λe s=>(e=.normal\/e=.ret)/\∃s2,Gst G s s2/\∀b k,outs b=some k->s2.b b=some k) e a' w')) [1] a1 (c1 :: cs) w:=by
   simp only[wpOpsSIn,show (#[o0,o1]:Array Oper)[1]?=some o1 from rfl,w1,if_true,e1,h1d]
   refine⟨λ_ _=>trivial,?_⟩
   show rest.wpSIn (RF none) 0 P _ a2 (c1 :: cs) w
   refine wpSIn_of_wpIn rfl (wpIn_mono (hB ⟨none,[],true⟩ γ a2 w hs2 ⟨rfl,rfl,λ_ h=>by simp at h⟩) (by grind))
  rw[wpOpsSIn]
  simp only[show (#[o0,o1]:Array Oper)[0]?=some o0 from rfl,w0,if_true,e0,h0d]
  refine⟨λ_ _=>trivial,?_⟩
  rcases hr with⟨r1,r2,r3⟩|⟨v,older,r1,r2,r3⟩
  ·have hrec:recoverD (c₀ :: cs)=none:=by simp[recoverD,hu,r1]
   rw[hrec]
   have hc:c₀ :: cs=c1 :: cs:=by
    show c₀ :: cs=({ c₀ with mode:=u' }:Frame) :: cs
    rw[r3,<-r1,<-hu]
   grind
  grind [recoverD]
 obtain⟨e,a',cs',w',hl,⟨rfl,hq⟩,harr⟩:=hw b [] rfl rfl trivial hroom
 rw[<-henter] at harr
 obtain⟨s0,γ0,k0,⟨g0,p0⟩,⟨Ds,_,m1,m2,m3⟩,he,s',hg,hout⟩:=hq
 obtain⟨γ',k1,g1',p1'⟩:=hg γ0 a'.tmps w' k0
 have g1:=g0.trans g1'
 have p1:=p0.trans p1'
 simp only[wE] at m1
 have ble:L7 γ' s'.b s'.u γ' outs (λ_=>true):=by
  refine⟨λ_ _=>rfl,λb _ hn=>?_,λb k hk=>⟨rfl,?_⟩⟩
  ·cases ho:outs b with
   | none=>rfl
   | some k=>grind
  ·cases ho:outs b with
   | none=>exact .inl rfl
   | some k'=>
    grind
 have fin:∀todo,StepsIn (Machine.fenced P (RF none)) P (lone (Frame.enter P f as .deferred) (c₀ :: cs) w) (lone { b.atR a' todo with mode:=.returning } (c1 :: cs) w')->
   ∃e u2 w' fr,(u2=u'/\∃v γ',e=.returned v/\Grow γ w γ' w'/\Pin γ ins uTop γ' outs (λ_=>true)/\(∀b k,outs b=some k->L4 γ' w' outs (λ_=>true) b k)/\(∀B x,γ'.own B=some x->B < w'.heap.size))/\
    ComesIn (Machine.fenced P (RF none)) P (lone (Frame.enter P f as .deferred) (c₀ :: cs) w) (lone fr ({ c₀ with mode:=u2 } :: cs) w') e/\fr.kind=.deferred/\fr.fn=f/\fr.going P w' e:=by
  intro todo hst
  obtain⟨w2,⟨i1,i2⟩,st2⟩:=marks_steps (P:=P) (λw2=>Sim G γ' s' a'.tmps w2/\Grow γ w γ' w2) Ds { b.atR a' todo with mode:=.returning } (c1 :: cs) w' (by simp) m1 ⟨k1,g1⟩ m2 (λD hD=>(m3 D hD).2.1) (λD w7 hD hI hd=>
   ⟨(Y5.put hd rfl).sim hI.1,hI.2.put hd rfl (m3 D hD).1⟩)
  have hpin:Pin γ ins uTop γ' s'.b s'.u:=p1
  obtain⟨v,hv,_⟩:=run_resultsV (P:=P) i1 (show G9 P s' fn.results.toList=some (.tup []) by rw[hres];rfl)
  refine⟨.returned v,u',w2,{ { b.atR a' todo with mode:=.returning } with defers:=[] },⟨rfl,_,γ',rfl,i2,hpin.trans ble.pin,λb k hk=>?_,i1.o⟩,StepsIn.trans hst st2,rfl,rfl,rfl,rfl,fn,hf,hv⟩
  ·rcases i1.b b k (hout b k hk) with h0|hm|⟨hM,B,o,cs,e,a1,a2,a3,a4,a5,a6,a7,a8⟩
   ·exact .inl h0
   ·exact .inr (.inl (hm.same rfl (by grind) λc v hr=>hr.mono (.refl _ _) ble))
   refine .inr (.inr ⟨hM,B,o,cs,e,a1,a2,a3,a4,a5,λi c hc=>?_,a7,a8⟩)
   obtain⟨x,b1,b2,b3,b4⟩:=a6 i c hc
   exact⟨x,b1,b2.mono (.refl _ _) ble,b3,b4⟩
 rcases he with rfl|rfl
 ·exact fin [] (StepsIn.trans harr (.one (RF.fenced _ _ _) (stepR_end rfl)))
 ·obtain⟨todo,hs⟩:=harr.1 rfl
  grind
end
def Ok{P:Program}{G:zd}{ρ:Type}(g:T P G ρ)(Q:ρ->Prop):Prop:=∃r,g.run=some r/\Q r
def SOk{P:Program}{G:zd}{ρ:Type}(s:Spec P G ρ)(Q:ρ->Prop):Prop:=∃r,s.o=some r/\Q r
section
variable {P:Program} {G:zd} {ρ:Type} {Q:ρ->Prop}
theorem SOk.mono{s:Spec P G ρ}{R:ρ->Prop}(h:SOk s R)(hq:∀r,R r->Q r):SOk s Q:=let ⟨r,h1,h2⟩:=h;⟨r,h1,hq r h2⟩
theorem SOk.o{s:Spec P G ρ}{r:ρ}(h:s.o=some r):SOk s (λx=>x=r):=⟨r,h,rfl⟩
theorem SOk.eq{s:Spec P G ρ}{r:ρ}(h:SOk s (λx=>x=r)):s.o=some r:=by obtain⟨x,h1,rfl⟩:=h;exact h1
theorem Ok.d{r:ρ}(h:Q r):Ok (.done r:T P G ρ) Q:=⟨r,rfl,h⟩
theorem Ok.e{a:Nat}{c:Bool}{x y:T P G ρ}(h1:c=true->Ok x Q)(h2:c=false->Ok y Q):Ok (.br a c x y) Q:=by
 cases c with
 | true=>obtain⟨r,e,hq⟩:=h1 rfl;exact⟨r,e,hq⟩
 | false=>obtain⟨r,e,hq⟩:=h2 rfl;exact⟨r,e,hq⟩
theorem Ok.tt{k:T P G ρ}(h:Ok k Q):Ok (.tt k) Q:=h
theorem Ok.ff{k:T P G ρ}(h:Ok k Q):Ok (.ff k) Q:=h
theorem Ok.re{a:Nat}{w:ReW}{k:T P G ρ}(h:Ok k Q):Ok (.re a w k) Q:=h
theorem Ok.g{a:Nat}{w:GhW}{k:T P G ρ}(h:Ok k Q):Ok (.gh a w k) Q:=h
theorem Ok.fact{p:Prop}{i:Decidable p}{k:p->T P G ρ}(hp:p)(h:Ok (k hp) Q):Ok (.fact p i k) Q:=by
 obtain⟨r,e,hq⟩:=h
 refine⟨r,?_,hq⟩
 cases i with
 | isTrue _=>exact e
 | isFalse hn=>grind
theorem Ok.k{a:Nat}{c:Bool}{k:T P G ρ}(hc:c=true)(h:Ok k Q):Ok (.chk a c k) Q:=by
 subst hc;obtain⟨r,e,hq⟩:=h;exact⟨r,e,hq⟩
theorem Ok.r{α:Type}{a:Nat}{ty:Ty α}{l:List α}{j:Nat}{c:Bool}{k:α->T P G ρ}{x:α}(hc:c=true)(hx:l[j]?=some x)(h:Ok (k x) Q):Ok (.row a ty l j c k) Q:=by
 subst hc;obtain⟨r,e,hq⟩:=h
 exact⟨r,by simp_all [cond_true,T.run],hq⟩
theorem Ok.app{α:Type}{a:Nat}{ty:Ty α}{l x:List α}{bytes:Nat}{fl:Bool}{hf:fl=true->∀y,ty.c y=ty.d y}{k:T P G ρ}(hn:(l.length+x.length) * bytes<=140737488355328)(h:Ok k Q):Ok (.app a ty l x bytes fl hf k) Q:=by
 obtain⟨r,e,hq⟩:=h
 exact⟨r,by simp_all [ww,cond_true,T.run],hq⟩
theorem Ok.c{α:Type}{a:Nat}{s:Spec P G α}{Li Lo:List (Nat×Nat)}{k:α->T P G ρ}{R:α->Prop}(hs:SOk s R)(h:∀r,R r->Ok (k r) Q):Ok (.call a s Li Lo k) Q:=by
 obtain⟨x,e1,hr⟩:=hs
 obtain⟨r,e,hq⟩:=h x hr
 exact⟨r,by grind [T.run],hq⟩
theorem Ok.v{α:Type}{a:Nat}{s:Spec P G α}{vs:List VwW}{k:α->T P G ρ}{R:α->Prop}(hs:SOk s R)(h:∀r,R r->Ok (k r) Q):Ok (.view a s vs k) Q:=by
 obtain⟨x,e1,hr⟩:=hs
 obtain⟨r,e,hq⟩:=h x hr
 exact⟨r,by grind [T.run],hq⟩
theorem Ok.callp{α β:Type}{a:Nat}{s:SpecP P G α β}{Li Lo:List (Nat×Nat)}{k:α->T P G ρ}{k2:β->T P G ρ}{x:α⊕β}(hs:s.o=some x)(h:∀r,x=.inl r->Ok (k r) Q)(h2:∀r,x=.inr r->Ok (k2 r) Q):Ok (.callp a s Li Lo k k2) Q:=by
 cases x with
 | inl x=>obtain⟨r,e,hq⟩:=h x rfl;exact⟨r,by grind [T.run],hq⟩
 | inr x=>obtain⟨r,e,hq⟩:=h2 x rfl;exact⟨r,by grind [T.run],hq⟩
theorem Ok.subR{ε:Type}{S:Sub P G ε}{k:ε->T P G ρ}{r:ε}(hr:S.o=some r)(h:Ok (k r) Q):Ok (.sub S k) Q:=by
 obtain⟨x,e,hq⟩:=h
 exact⟨x,by grind [T.run],hq⟩
theorem Ok.n{ε:Type}{id:Nat}{ts:List Nat}{first:T P G ε}{E:ε->List V}{k:ε->T P G ρ}{R:ε->Prop}(hf:Ok first R)(h:∀e,R e->Ok (k e) Q):Ok (.cnd id ts first E k) Q:=by
 obtain⟨x,e1,hr⟩:=hf
 obtain⟨r,e,hq⟩:=h x hr
 exact⟨r,by grind [T.run],hq⟩
theorem Ok.b{ε:Type}{j:Nat}{first:T P G ε}{E:ε->Ext}{k:ε->T P G ρ}{R:ε->Prop}(hf:Ok first R)(h:∀e,R e->Ok (k e) Q):Ok (.bind j first E k) Q:=by
 obtain⟨x,e1,hr⟩:=hf
 obtain⟨r,e,hq⟩:=h x hr
 exact⟨r,by grind [T.run],hq⟩
theorem Ok.p{ε ζ:Type}{j:Nat}{first:T P G (ε⊕ζ)}{E:ε->Ext}{E2:ζ->Ext}{k:ε->T P G ρ}{k2:ζ->T P G ρ}{R:ε⊕ζ->Prop}(hf:Ok first R)(h:∀e,R (.inl e)->Ok (k e) Q)(h2:∀e,R (.inr e)->Ok (k2 e) Q):Ok (.bind2 j first E E2 k k2) Q:=by
 obtain⟨x,e1,hr⟩:=hf
 cases x with
 | inl x=>obtain⟨r,e,hq⟩:=h x hr;exact⟨r,by grind [T.run],hq⟩
 | inr x=>obtain⟨r,e,hq⟩:=h2 x hr;exact⟨r,by grind [T.run],hq⟩
theorem Ok.ceq{a:Nat}{n:Int}{vs:List Int}{k:Int->T P G ρ}(hn:vs.contains n=true)(h:Ok (k n) Q):Ok (.ceq a n vs k) Q:=by
 obtain⟨r,e,hq⟩:=h
 exact⟨r,by simp_all [cond_true,T.run],hq⟩
theorem iter_inv{σ ε:Type}{f:σ->Option (σ⊕ε)}(I:σ->Prop)(μ:σ->Nat)(R:ε->Prop)
  (step:∀x,I x->∃r,f x=some r/\(match r with|.inl y=>I y/\μ y < μ x|.inr e=>R e)):∀n x,I x->μ x < n->∃e,S3 f n x=some e/\R e
 | 0,x,_,h=>(by grind)
 | n+1,x,hx,h=>by
  have e1:S3 f (n+1) x=(match f x with|none=>none|some (.inl y)=>S3 f n y|some (.inr e)=>some e):=rfl
  rw[e1]
  obtain⟨r,hr,hq⟩:=step x hx
  rw[hr]
  cases r with
  | inl y=>exact iter_inv I μ R step n y hq.1 (by grind)
  | inr e=>grind
def Rnd{σ ε:Type}(I:σ->Prop)(μ:σ->Nat)(m:Nat)(R:ε->Prop):σ⊕ε->Prop
 | .inl y=>I y/\μ y < m
 | .inr e=>R e
theorem Ok.lp{σ ε:Type}{S:σ->Ext}{body:σ->T P G (σ⊕ε)}{x:σ}{R:ε->Prop}(I:σ->Prop)(μ:σ->Nat)(hx:I x)(hm:μ x < FUEL)(step:∀y,I y->Ok (body y) (Rnd I μ (μ y) R)):Ok (.lp S body x) R:=by
 refine iter_inv I μ R (λy hy=>?_) FUEL x hx hm
 obtain⟨r,h1,h2⟩:=step y hy
 refine⟨r,h1,?_⟩
 cases r<;>exact h2
end
theorem SOk.fn{P:Program}{G:zd}{kp:List Nat}{f:FuncId}{fn:Func}{args:List V}{ρ:Type}{g:T P G ρ}{res:ρ->V}{hm:P.follows .mixedOrders=true}{hf:P.funcs[f]?=some fn}{k:FnD P G kp fn args g res}{Q:ρ->Prop}(h:Ok g Q):SOk (.ofFn f hm hf k) Q:=h
theorem A7{a:Act}{dst:Option Nat}{v:Value}{t:Nat}(h:dst≠some t):(a.put dst v).tmps.getD t undef=a.tmps.getD t undef:=by
 cases dst with
 | none=>rfl
 | some d=>
  have hd:d≠t:=λe=>h (by rw[e])
  show (a.tmps.setIfInBounds d v).getD t undef=_
  simp_all
theorem wpIn_frame{F:Fence}{n:Nat}{P:Program}{o:Oper}{a:Act}{w:World}{t:Nat}(hd:o.dst≠some t){K K':Act->World->Prop}{Q Q':Exit->Act->World->Prop}(h:o.wpIn F n P a w K Q)
  (hK:∀a' w',K a' w'->a'.tmps.getD t undef=a.tmps.getD t undef->K' a' w') (hQ:∀e a' w',e≠.normal->Q e a' w'->Q' e a' w'):o.wpIn F n P a w K' Q':=by
 unfold Oper.wpIn at *
 refine⟨h.1,?_⟩
 have hh:=h.2
 have lets:LetsOut Q->LetsOut Q':=λ⟨x,y,z⟩=>⟨x,y,hQ _ _ _ (by simp) z⟩
 generalize (o.semAt F.round a.eval).run P w=r at *
 cases r with
 | ok x w'=>
  cases x<;>simp only[Oper.uponIn] at hh ⊢ <;>
   first
    | grind [A7]
    | exact⟨hh.1,(by grind [CallsIn.mono,A7])⟩
    | exact⟨hh.1,(by grind [RowsIn.mono,A7])⟩
    | grind [RoundIn.mono,A7]
 | halt x w'=>cases x<;>simp only[Oper.uponIn] at hh ⊢<;>exact hQ _ _ _ (by simp) hh
theorem C1{F:Fence}{n:Nat}{P:Program}{ops:Array Oper}{t:Nat}{Q:Exit->Act->World->Prop}(ho:∀(i:Nat) (o:Oper),ops[i]?=some o->o.dst≠some t):∀(l:List Nat) (a:Act) (w:World),wpOpsIn F n P ops Q l a w->
  wpOpsIn F n P ops (λe a' w'=>Q e a' w'/\(e=.normal->a'.tmps.getD t undef=a.tmps.getD t undef)) l a w
 | [],_,_,h=>⟨h,λ_=>rfl⟩
 | i :: rest,a,w,h=>by
  simp only[wpOpsIn] at h ⊢
  cases hi:ops[i]? with
  | none=>rw[hi] at h;simp only at h ⊢;exact C1 ho rest a w h
  | some o=>
   rw[hi] at h
   simp only at h ⊢
   split
   ·rename_i hw
    rw[if_pos hw] at h
    refine wpIn_frame (ho i o hi) h (λa' w' hk he=>?_) (by grind)
    exact H5 (by grind) rest a' w' (C1 ho rest a' w' hk)
   ·rename_i hw
    rw[if_neg hw] at h
    exact⟨h.1,H5 (by grind [A7,trans]) rest _ w (C1 ho rest _ w h.2)⟩
theorem O3{ro:Option Nat}{P:Program}{o:Oper}{a:Act}{w w':World}{v:Value}{next:Act->World->Prop}{Q:Exit->Act->World->Prop}(hr:(execOp a.eval o).run P w=.ok (.value v) w')(hn:next (a.put o.dst v) w'):o.wpIn (RF ro) 0 P a w next Q:=by
 refine op_in ?_ ?_
 ·show o.upon P a _ _ _
  rw[hr,Oper.upon_value,U9]
 ·show o.upon P a _ _ _
  grind [Oper.upon_value]
theorem Sim.putU{G:zd}{γ:Gh}{st:St}{a:Act}{w:World}(h:Sim G γ st a.tmps w){d:Nat}{v:Value}(hd:st.t d=.undef):Sim G γ st (a.put (some d) v).tmps w:=
 ⟨by show (a.tmps.setIfInBounds d v).size=_;rw[Array.size_setIfInBounds];exact h.n,λi=>by
  by_cases hi:d=i
  ·subst hi;rw[hd];exact .undef _
  ·rw[A7 (λe=>hi (by simpa using e))];exact h.t i,h.b,h.u,h.g,h.o⟩
theorem put_same{a:Act}{d:Nat}{v:Value}(h:d < a.tmps.size):(a.put (some d) v).tmps.getD d undef=v:=by
 show (a.tmps.setIfInBounds d v).getD d undef=v
 simp_all
theorem putN{a:Act}{dst:Option Nat}{v:Value}:(a.put dst v).tmps.size=a.tmps.size:=by
 cases dst with
 | none=>rfl
 | some d=>exact Array.size_setIfInBounds
def foldB{α σ:Type}(f:α->σ->Option σ):List α->σ->Option σ
 | [],s=>some s
 | x :: l,s=>(f x s).bind (foldB f l)
theorem foldB_perm{α σ:Type}{f:α->σ->Option σ}(hc:∀x y s,(f x s).bind (f y)=(f y s).bind (f x)){l l':List α}(h:l.Perm l'):∀s,foldB f l s=foldB f l' s:=by
 induction h with
 | nil=>intro s;rfl
 | cons x _ ih=>intro s;simp only[foldB];congr 1;grind
 | swap x y l=>
  intro s
  simp only[foldB]
  have e:∀(p q:α),((f p s).bind λs'=>(f q s').bind (foldB f l))=((f p s).bind (f q)).bind (foldB f l):=(by grind)
  grind
 | trans _ _ ih1 ih2=>grind
theorem left_perm{α:Type}(seen:Array Nat):∀(L:List (MapEntry×α)) (p:MapEntry×α),(L.map (·.1.born)).Nodup->p∈L->seen.contains p.1.born=false->
  ((L.filter λq=>!seen.contains q.1.born).map (·.2)).Perm (p.2 :: ((L.filter λq=>!(seen.push p.1.born).contains q.1.born).map (·.2)))
 | [],_,_,hp,_=>by simp at hp
 | q :: L,p,hn,hp,hs=>by
  simp only[zW,List.nodup_cons] at hn
  have hc:∀(x:Nat),(seen.push p.1.born).contains x=(seen.contains x || x==p.1.born):=(by grind)
  rcases zT.1 hp with rfl|hp
  ·have e:(L.filter λq=>!(seen.push p.1.born).contains q.1.born)=L.filter λq=>!seen.contains q.1.born:=by
    refine List.filter_congr λq hq=>?_
    grind
   simp_all
  ·have ih:=left_perm seen L p hn.2 hp hs
   have hne:(q.1.born==p.1.born)=false:=by
    grind
   have e2:(!(seen.push p.1.born).contains q.1.born)=(!seen.contains q.1.born):=by grind
   rw[List.filter_cons,List.filter_cons,e2]
   split
   ·simp only[zW]
    exact(ih.cons _).trans (List.Perm.swap _ _ _)
   ·exact ih
abbrev opsOf(ops:Array Oper):List (Op×Option Nat×Option (Nat×Bool)):=ops.toList.map λo=>(o.op,o.dst,o.guard)
theorem S7{ops:Array Oper}{l:List (Op×Option Nat×Option (Nat×Bool))}(h:opsOf ops=l){j:Nat}{p:Op×Option Nat×Option (Nat×Bool)}(hp:l[j]?=some p):∃o,ops[j]?=some o/\o.op=p.1/\o.dst=p.2.1/\o.guard=p.2.2:=by
 grind
section
variable {P:Program} {G:zd}
theorem region2{ro:Option Nat}{id:Nat}{ops:Array Oper}{o0 o1:Oper}{Q:Exit->Act->World->Prop}{a:Act}{w:World}(hn:ops.size=2)(h0:ops[0]?=some o0)(h1:ops[1]?=some o1)(g0:o0.guard=none)(g1:o1.guard=none)
  (h:o0.wpIn (RF ro) 0 P a w (λa' w'=>o1.wpIn (RF ro) 0 P a' w' (λa2 w2=>Q .normal a2 w2) Q) Q):CW ro P (.region id ops false) Q a w:=by
 refine wpIn_region ?_
 rw[hn]
 show wpOpsIn (RF ro) 0 P ops Q [0,1] a w
 simp_all [if_true,Region.wanted,yielded,wpOpsIn]
theorem TV.rangeMapC{σ α:Type}{ty:Ty α}{z b mt kt et n:Nat}{ex:Bool}{l:List α}{kd:IntKind}{fv:α->Int}{i29 i30 i31 B B2:Nat}{ops29 ops30 ops31:Array Oper}{C:Code}{tm t0 it tn tb te tw tv:Nat}{st:St}{S:σ->St}{body:α->σ->Option σ}{s0 r:σ}
  (h29:opsOf ops29=[(.move (.tmp tm),some t0,none),(.range mt (.tmp t0),some it,none)]) (h30:opsOf ops30=[(.next (.tmp it) false,some tn,none),(.extract (.tmp tn) 0,some tb,none)])
  (h31:opsOf ops31=[(.entry (.tmp it),some te,none),(.extract (.tmp te) 1,some tw,none),(.assign (.tmp tw),some tv,none)])
  (hne:it≠tn/\it≠tb/\it≠te/\it≠tw/\it≠tv/\it≠t0) (hlt:t0 < n/\it < n/\tn < n/\tb < n/\te < n/\tw < n/\tv < n)
  (hmt:P.underlying mt=some (.map kt et)) (hmz:mva z=false/\mvn z=1) (hM:J8<=z) (htm:st.t tm=.mp b) (hb:st.b b=some ⟨z,ex,l.map ty.c⟩) (hn:st.n=n) (hty:∀x,(ty.c x).drop (mkn z)=[.int kd (fv x)])
  (hS:∀s,(S s).n=n/\(S s).t it=.undef/\(S s).t tn=.undef/\(S s).t tb=.undef/\(S s).t te=.undef/\(S s).t tw=.undef/\(S s).t tv=.undef)
  (h0:Gst G (((st.setT t0 .undef).setT it .undef).delB b) (S s0))
  (hbody:∀x s s',body x s=some s'->∀(fx:Fx) (γ:Gh) (a:Act) (w:World),Sim G γ ((S s).setT tv (.int kd (fv x))) a.tmps w->FxOk fx γ a.defers w->
   CW fx.ro P C (λe a' w'=>L6 G fx γ ((S s).setT tv (.int kd (fv x))) w (λe st'=>e=.normal/\Gst G st' (S s')) e a' w'/\(e=.normal->a'.tmps.getD it undef=a.tmps.getD it undef)) a w)
  (hcomm:∀x y s,(body x s).bind (body y)=(body y s).bind (body x)) (hr:foldB body l s0=some r) :
  TV P G (.seq (.region i29 ops29 false) (.block B (.loop (.seq (.region i30 ops30 false) (.seq (.cond (.tmp tb) .skip (.exit B)) (.block B2 (.seq (.region i31 ops31 false) C))))))) st (λe st'=>e=.normal/\st'=S r):=λfx γ a w hs hx=>by
 obtain⟨n1,n2,n3,n4,n5,n6⟩:=hne
 obtain⟨l0,l1,l2,l3,l4,l5,l6⟩:=hlt
 obtain⟨o0,a0,b0,c0,d0⟩:=S7 h29 (j:=0) rfl
 obtain⟨o1,a1,b1,c1,d1⟩:=S7 h29 (j:=1) rfl
 obtain⟨p0,e0,f0,g0,k0⟩:=S7 h30 (j:=0) rfl
 obtain⟨p1,e1,f1,g1,k1⟩:=S7 h30 (j:=1) rfl
 obtain⟨q0,q0a,q0b,q0c,q0d⟩:=S7 h31 (j:=0) rfl
 obtain⟨q1,q1a,q1b,q1c,q1d⟩:=S7 h31 (j:=1) rfl
 obtain⟨q2,q2a,q2b,q2c,q2d⟩:=S7 h31 (j:=2) rfl
 have z29:ops29.size=2:=by have:=congrArg List.length h29;grind
 have z30:ops30.size=2:=by have:=congrArg List.length h30;grind
 have z31:ops31.size=3:=by have:=congrArg List.length h31;grind
 have hmp:=hs.t tm
 rw[htm] at hmp
 obtain⟨bm,hmv,hloc⟩:∃bm,a.tmps.getD tm undef=.map (some bm)/\γ.loc b=some (bm,0):=by
  generalize a.tmps.getD tm undef=v at hmp
  cases hmp with
  | data h=>cases h
  | mp _ B k q1 q2 q3=>grind
  | deadMp _ _ q1=>grind
 obtain⟨es,clock,hheap,hown,hes,hborn,hsz,hval⟩:∃es clock,w.heap[bm]?=some (.map es clock)/\γ.own bm=some (.blk b)/\EsOk z es/\Born es clock/\es.size=l.length/\∀(j:Nat) (x:α),l[j]?=some x->∃e,es[j]?=some e/\e.val=.int kd (fv x):=by
  rcases hs.b b _ hb with⟨h0,_⟩|⟨_,B',es,clock,q1,q2,q3,q4,q5,q6,q7⟩|hk
  ·grind
  ·rw[hloc] at q1;simp only[zp,zJ,and_true] at q1
   subst q1
   refine⟨es,clock,q3,q2,q6.1,q6.2,by simpa using q4,λj x hx=>?_⟩
   obtain⟨e,r1,_,r3⟩:=MapAt.row q4 q5 q6.1 q7 (i:=j) (r:=ty.c x) (by grind)
   refine⟨e,r1,?_⟩
   rw[hty x,hmz.1] at r3
   exact r3.int_inv
  ·exact absurd hk.1 (Nat.not_lt_of_le hM)
 have hlen:es.toList.length=l.length:=by grind
 let Z:List (MapEntry×α):=es.toList.zip l
 have hZn:(Z.map (·.1.born)).Nodup:=by
  have:Z.map (·.1.born)=(es.toList.map (·.born)):=by
   show (es.toList.zip l).map (λq=>q.1.born)=_
   rw[show (λq:MapEntry×α=>q.1.born)=(λe:MapEntry=>e.born) ∘ Prod.fst from rfl,<-wD,List.map_fst_zip (by omega)]
  rw[this];exact hborn.1
 have hZv:∀p,p∈Z->p.1.val=.int kd (fv p.2):=(by grind [List.mem_iff_getElem?,List.getElem?_zip_eq_some,Option.some.inj])
 have hZl:Z.map (·.2)=l:=List.map_snd_zip (by omega)
 have hZe:∀e,e∈es.toList->∃x,(e,x)∈Z:=λe he=>by
  obtain⟨j,hj⟩:=wK.1 he
  have hjl:j < l.length:=by grind
  exact⟨l[j],zO (i:=j) (by rw[List.getElem?_zip_eq_some];exact⟨hj,zR hjl⟩)⟩
 let γ0:Gh:={ loc:=γ.loc,own:=λB=>if B=bm then none else γ.own B,lim:=γ.lim }
 have hrelG:∀w',Grow γ w' γ0 w':=λw'=>⟨rfl,rfl,rfl,zD _,λ_ _ _ _ h=>h,λ_ _=>zD _,λB _ ho=>⟨rfl,by show (if B=bm then none else γ.own B)=none;split;rfl;exact ho,rfl⟩,λ_ cs _ fz h=>⟨cs,fz,h,rfl,.inl rfl⟩⟩
 have hbl:∀(t:Nat->V) (m:Nat),L7 γ (⟨m,t,st.b,st.u⟩:St).b st.u γ0 ((⟨m,t,st.b,st.u⟩:St).delB b).b ((⟨m,t,st.b,st.u⟩:St).delB b).u:=λt m=>
  ⟨λx hx'=>by simp only[St.delB];split<;>simp_all,λx _ hn'=>by simp only[St.delB];split<;>simp_all,λx q hq=>⟨by simp only[St.delB];split;rfl;exact hs.u x q hq,by
   by_cases hx':x=b
   ·exact .inl (by simp[St.delB,hx'])
   ·exact .inr ⟨q,by simp only[St.delB];rw[if_neg hx'];exact hq,rfl,λ_=>rfl,rfl⟩⟩⟩
 have hrel:∀(st1:St) (tm1:Array Value) (w1:World),st1.b=st.b->st1.u=st.u->Y5 w w1->w1.os=w.os->Sim G γ st1 tm1 w1->Sim G γ0 (st1.delB b) tm1 w1:=λst1 tm1 w1 hbe hue hcs _ h=>by
  have bl:L7 γ st1.b st1.u γ0 (st1.delB b).b (st1.delB b).u:=by
   have:=hbl st1.t st1.n
   rw[<-hbe,<-hue] at this
   exact this
  have g:=hrelG w1
  refine⟨h.n,λi=>(h.t i).mono g bl,λx q hq=>?_,λx q hq=>?_,h.g.grow g,λB x hx'=>?_⟩
  ·have hxb:x≠b:=λe=>by subst e;simp[St.delB] at hq
   have hq':st1.b x=some q:=by simpa[St.delB,hxb] using hq
   have hob:∀B,γ.own B=some (.blk x)->γ0.own B=some (.blk x):=λB hB=>by
    show (if B=bm then none else γ.own B)=_
    rw[if_neg (λe=>by rw[e,hown] at hB;simp at hB;exact hxb hB.symm)];exact hB
   have hon:∀B i j,γ.own B=some (.nest x i j)->γ0.own B=some (.nest x i j):=λB i j hB=>by
    show (if B=bm then none else γ.own B)=_
    rw[if_neg (λe=>by rw[e,hown] at hB;simp at hB)];exact hB
   rcases h.b x q hq' with v|hm|⟨hM',B,o,cs,e,a1,a2,a3,a4,a5,a6,a7,a8⟩
   ·exact .inl v
   ·exact .inr (.inl (hm.same rfl (λB _ hB=>⟨hob B hB,rfl⟩) λc v hr=>hr.mono g bl))
   ·refine .inr (.inr ⟨hM',B,o,cs,e,a1,hob B a2,a3,a4,a5,λi c hc=>?_,a7,a8⟩)
    obtain⟨v,v1,v2,v3,v4⟩:=a6 i c hc
    exact⟨v,v1,v2.mono g bl,v3,v4.mono λB' hB'=>⟨hon B' _ _ hB',zD _⟩⟩
  ·have hxb:x≠b:=λe=>by subst e;simp[St.delB] at hq
   have hq':st1.b x=some q:=by simpa[St.delB,hxb] using hq
   show (if x=b then true else st1.u x)=true
   rw[if_neg hxb];exact h.u x q hq'
  ·have:γ.own B=some x:=by
    have hx2:(if B=bm then none else γ.own B)=some x:=hx'
    split at hx2
    ·simp at hx2
    ·exact hx2
   exact h.o B x this
 have hbmlt:bm < w.heap.size:=(wk.1 hheap).1
 refine wpIn_seq (region2 z29 a0 a1 d0 d1 ?_)
 have hat:a.tmps.size=n:=hs.n.trans hn
 have ev0:a.eval (.tmp tm)=.map (some bm):=hmv
 refine O3 (v:=.map (some bm)) (w':=w) (by simp only[execOp,b0];rw[ev0];rfl) ?_
 rw[c0]
 have ev1:(a.put (some t0) (.map (some bm))).eval (.tmp t0)=.map (some bm):=put_same (by rw[hat];exact l0)
 refine O3 (v:=.pointer (some ⟨w.heap.size,0,none⟩)) (w':=w.alloc (.mapIter (some bm) clock #[] clock)) (by
  simp only[execOp,b1]
  rw[ev1,zM,run_range_map w mt kt et bm es clock hmt hheap];rfl) ?_
 rw[c1]
 have galloc:=Grow.alloc γ w (.mapIter (some bm) clock #[] clock)
 have hrAt:(w.alloc (.mapIter (some bm) clock #[] clock)).heap[w.heap.size]?=some (.mapIter (some bm) clock #[] clock):=World.alloc_heap_new w _
 have hmAt:(w.alloc (.mapIter (some bm) clock #[] clock)).heap[bm]?=some (.map es clock):=(heap_alloc w _ bm hbmlt).trans hheap
 have s1:Sim G γ ((st.setT t0 .undef).setT it .undef) ((a.put (some t0) (.map (some bm))).put (some it) (.pointer (some ⟨w.heap.size,0,none⟩))).tmps (w.alloc (.mapIter (some bm) clock #[] clock)):=by
  refine galloc.2.sim ?_
  have hA:Sim G γ ((st.setT t0 .undef).setT it .undef) a.tmps w:=⟨hs.n,λi=>by
   simp only[St.setT]
   split
   ·exact .undef _
   ·split
    ·exact .undef _
    ·exact hs.t i,hs.b,hs.u,hs.g,hs.o⟩
  refine Sim.putU (Sim.putU hA ?_) ?_
  ·simp only[St.setT];split<;>simp
  ·simp[St.setT]
 have s2:=hrel ((st.setT t0 .undef).setT it .undef) _ _ rfl rfl galloc.2 rfl s1
 obtain⟨γ1,s3,g3,pn3⟩:=h0 γ0 _ _ s2
 have hpin0:Pin γ st.b st.u γ0 (((st.setT t0 .undef).setT it .undef).delB b).b (((st.setT t0 .undef).setT it .undef).delB b).u:=(hbl ((st.setT t0 .undef).setT it .undef).t st.n).pin
 have hgr:Grow γ w γ1 (w.alloc (.mapIter (some bm) clock #[] clock)):=(galloc.1.trans (hrelG _)).trans g3
 have hpin:Pin γ st.b st.u γ1 (S s0).b (S s0).u:=hpin0.trans pn3
 have hownr:γ1.own w.heap.size=none:=by
  refine(g3.free w.heap.size ?_ ?_).2.1
  ·exact(wk.1 hrAt).1
  ·show (if w.heap.size=bm then none else γ.own w.heap.size)=none
   split
   ·rfl
   ·cases ho:γ.own w.heap.size with
    | none=>rfl
    | some x=>have:=hs.o _ x ho;omega
 have hownb:γ1.own bm=none:=(g3.free bm (by have:=(wk.1 hmAt).1;exact this) (by show (if bm=bm then none else _)=none;rw[if_pos rfl])).2.1
 have hit:((a.put (some t0) (.map (some bm))).put (some it) (.pointer (some ⟨w.heap.size,0,none⟩))).tmps.getD it undef=.pointer (some ⟨w.heap.size,0,none⟩):=put_same (by rw[putN,hat];exact l1)
 have hdef:((a.put (some t0) (.map (some bm))).put (some it) (.pointer (some ⟨w.heap.size,0,none⟩))).defers=fx.ds:=by rw[U9,U9];exact hx.1
 show CW fx.ro P (.block B (.loop _)) (L6 G fx γ st w _) _ _
 refine wpIn_block ?_
 refine cw_loopN (λm a' w'=>∃(s:σ) (γ':Gh) (seen:Array Nat) (c0:Nat),Sim G γ' (S s) a'.tmps w'/\(Grow γ w γ' w'/\Pin γ st.b st.u γ' (S s).b (S s).u)/\V7 fx.mx w γ' w' fx.ds a'.defers/\a'.tmps.getD it undef=.pointer (some ⟨w.heap.size,0,none⟩)/\
   w'.heap[w.heap.size]?=some (.mapIter (some bm) clock seen c0)/\w'.heap[bm]?=some (.map es clock)/\γ'.own w.heap.size=none/\γ'.own bm=none/\clock<=c0/\foldB body ((Z.filter λq=>!seen.contains q.1.born).map (·.2)) s=some r/\(Z.filter λq=>!seen.contains q.1.born).length=m)
  (λm a' w' hI=>?_) _ _ _ ⟨s0,γ1,#[],clock,s3,⟨hgr,hpin⟩,.of hdef,hit,hrAt,hmAt,hownr,hownb,zD _,by
   have:(Z.filter λq=>!(#[]:Array Nat).contains q.1.born)=Z:=List.filter_eq_self.2 λq _=>by simp
   rw[this,hZl];exact hr,rfl⟩
 obtain⟨s,γ',seen,cl,i1,⟨i2,i2p⟩,i3,i4,i5,i6,i7,i8,i9,i10,i11⟩:=hI
 obtain⟨u0,u1,u2,u3,u4,u5,u6⟩:=hS s
 have hat':a'.tmps.size=n:=i1.n.trans u0
 have hold:∀x,x∈es.toList->x.born < clock:=hborn.2
 have evI:a'.eval (.tmp it)=.pointer (some ⟨w.heap.size,0,none⟩):=i4
 refine wpIn_seq (region2 z30 e0 e1 k0 k1 ?_)
 have oex:∀v:Value,(a'.put (some tn) v).eval (.tmp tn)=v:=λv=>put_same (by rw[hat'];exact l2)
 have hfx:∀(a2:Act),a2.defers=a'.defers->True:=λ_ _=>trivial
 rcases run_next_at (P:=P) w' p0.type w.heap.size bm clock cl seen es clock i5 i6 hold i9 with⟨hz,hrun⟩|⟨e,he,w1,hw1,hrun⟩
 ·
  refine O3 (v:=.tuple #[.bool false]) (w':=w') (by simp only[execOp,f0];rw[evI,zM,hrun];rfl) ?_
  rw[g0]
  refine O3 (v:=.bool false) (w':=w') (by simp only[execOp,f1];rw[oex];rfl) ?_
  rw[g1]
  show CW fx.ro P (.seq _ _) _ _ _
  have s4:Sim G γ' (S s) ((a'.put (some tn) (.tuple #[.bool false])).put (some tb) (.bool false)).tmps w':=Sim.putU (Sim.putU i1 u2) u3
  refine wpIn_seq (wpIn_cond (t:=false) (put_same (by rw[putN,hat'];exact l3)) (wpIn_exit ?_))
  have hnil:(Z.filter λq=>!seen.contains q.1.born)=[]:=by
   refine List.filter_eq_nil_iff.2 λq hq=>?_
   have hqe:q.1∈es.toList:=List.of_mem_zip hq |>.1
   have hl0:leftOf es seen=#[]:=Array.eq_empty_of_size_eq_zero hz
   have:q.1∉(leftOf es seen):=by rw[hl0];simp
   unfold leftOf at this
   simp only[Array.mem_filter,not_and,wi] at this
   have h3:=this (Array.mem_toList_iff.1 hqe)
   simpa using h3
  rw[hnil] at i10
  simp only[List.map_nil,foldB,zp] at i10
  subst i10
  show Exit.inBlock B _ (.exit B) _ _
  simp only[Exit.inBlock,if_true]
  exact⟨S s,γ',s4,⟨i2,i2p⟩,by rw[U9,U9];exact i3,rfl,rfl⟩
 ·
  have heL:e∈es.toList/\seen.contains e.born=false:=by
   unfold leftOf at he
   rw[Array.mem_toList_iff,Array.mem_filter] at he
   exact⟨Array.mem_toList_iff.2 he.1,by simpa using he.2⟩
  obtain⟨x,hxZ⟩:=hZe e heL.1
  have hperm:=left_perm seen Z (e,x) hZn hxZ heL.2
  rw[foldB_perm hcomm hperm] at i10
  simp only[foldB] at i10
  obtain⟨s',hs',hrest⟩:=zL.1 i10
  have hwh:w1.heap=w'.heap/\w1.os=w'.os/\w1.tape=w'.tape/\w1.output=w'.output:=by rcases hw1 with rfl|rfl<;>exact⟨rfl,rfl,rfl,rfl⟩
  have hcs1:Y5 w' w1:=⟨by rw[hwh.1];exact zD _,λB cs e fz hb=>by rw[hwh.1];exact hb,λB es c hb=>by rw[hwh.1];exact hb⟩
  have hr1:w1.heap[w.heap.size]?=some (.mapIter (some bm) clock seen cl):=by rw[hwh.1];exact i5
  let w2:World:=w1.putObj w.heap.size (.mapIter (some bm) clock (seen.push e.born) clock)
  have hw2:ChangeMaps.setBlock w1 w.heap.size (.mapIter (some bm) clock (seen.push e.born) clock)=w2:=rfl
  have hcs2:Y5 w1 w2:=Y5.put hr1 rfl
  have g1':Grow γ w γ' w1:=i2.same hcs1 (λB _=>by rw[hwh.1]) hwh.2.1 hwh.2.2.1 hwh.2.2.2
  have g2':Grow γ w γ' w2:=g1'.put hr1 rfl (zD _)
  have hr2:w2.heap[w.heap.size]?=some (.mapIter (some bm) clock (seen.push e.born) clock):=World.putObj_heap_same (wk.1 hr1).1
  have hm2:w2.heap[bm]?=some (.map es clock):=by
   have:bm≠w.heap.size:=by omega
   rw[show w2.heap[bm]?=w1.heap[bm]? from World.putObj_heap_other this,hwh.1];exact i6
  rw[hw2] at hrun
  refine O3 (v:=.tuple #[.bool true,e.key,e.val]) (w':=w2) (by simp only[execOp,f0];rw[evI,zM,hrun];rfl) ?_
  rw[g0]
  refine O3 (v:=.bool true) (w':=w2) (by simp only[execOp,f1];rw[oex];rfl) ?_
  rw[g1]
  show CW fx.ro P (.seq _ _) _ _ _
  let a2:Act:=(a'.put (some tn) (.tuple #[.bool true,e.key,e.val])).put (some tb) (.bool true)
  have s4:Sim G γ' (S s) a2.tmps w2:=Sim.putU (Sim.putU ((hcs2.sim (hcs1.sim i1))) u2) u3
  have hat2:a2.tmps.size=n:=s4.n.trans u0
  have hit2:a2.tmps.getD it undef=.pointer (some ⟨w.heap.size,0,none⟩):=by
   rw[A7 (λh=>n2 (by simpa using h.symm)),A7 (λh=>n1 (by simpa using h.symm))];exact i4
  have hd2:a2.defers=a'.defers:=by rw[U9,U9]
  refine wpIn_seq (wpIn_cond (t:=true) (put_same (by rw[putN,hat'];exact l3)) (wpIn_skip ?_))
  show CW fx.ro P (.block B2 _) _ _ _
  refine wpIn_block (wpIn_seq (wpIn_region ?_))
  rw[z31]
  show wpOpsIn (RF fx.ro) 0 P ops31 _ [0,1,2] a2 w2
  have v0:∀a:Act,Region.wanted q0 (yielded ops31 a.tmps)=true:=λa=>by unfold Region.wanted;rw[q0d]
  have v1:∀a:Act,Region.wanted q1 (yielded ops31 a.tmps)=true:=λa=>by unfold Region.wanted;rw[q1d]
  have v2:∀a:Act,Region.wanted q2 (yielded ops31 a.tmps)=true:=λa=>by unfold Region.wanted;rw[q2d]
  simp only[wpOpsIn,q0a,q1a,q2a,v0,v1,v2,if_true]
  have hent:=run_entry_at (P:=P) w2 w.heap.size bm clock seen es clock e hr2 hm2 heL.1 hborn.1
  have ev2:a2.eval (.tmp it)=.pointer (some ⟨w.heap.size,0,none⟩):=hit2
  refine O3 (v:=.tuple #[e.key,e.val]) (w':=w2) (by simp only[execOp,q0b];rw[ev2,zM,hent];rfl) ?_
  rw[q0c]
  have ev3:(a2.put (some te) (.tuple #[e.key,e.val])).eval (.tmp te)=.tuple #[e.key,e.val]:=put_same (by rw[hat2];exact l4)
  refine O3 (v:=e.val) (w':=w2) (by simp only[execOp,q1b];rw[ev3];rfl) ?_
  rw[q1c]
  have ev4:((a2.put (some te) (.tuple #[e.key,e.val])).put (some tw) e.val).eval (.tmp tw)=e.val:=put_same (by rw[putN,hat2];exact l5)
  refine O3 (v:=e.val) (w':=w2) (by simp only[execOp,q2b];rw[ev4];rfl) ?_
  rw[q2c]
  let a3:Act:=((a2.put (some te) (.tuple #[e.key,e.val])).put (some tw) e.val).put (some tv) e.val
  have s5:Sim G γ' (S s) ((a2.put (some te) (.tuple #[e.key,e.val])).put (some tw) e.val).tmps w2:=Sim.putU (Sim.putU s4 u4) u5
  have hev:e.val=.int kd (fv x):=hZv (e,x) hxZ
  have s6:Sim G γ' ((S s).setT tv (.int kd (fv x))) a3.tmps w2:=by
   have:=s5.put (dst:=some tv) (c:=.int kd (fv x)) (v:=e.val) (by simp only[H7,u0];simpa using l6) (by rw[hev];exact .data (.int _ _))
   exact this
  have hd3:a3.defers=a'.defers:=by show (((a2.put _ _).put _ _).put _ _).defers=_;rw[U9,U9,U9];exact hd2
  have hit3:a3.tmps.getD it undef=.pointer (some ⟨w.heap.size,0,none⟩):=by
   show (((a2.put _ _).put _ _).put _ _).tmps.getD it undef=_
   rw[A7 (λh=>n5 (by simpa using h.symm)),A7 (λh=>n4 (by simpa using h.symm)),A7 (λh=>n3 (by simpa using h.symm))];exact hit2
  show CW fx.ro P C _ a3 w2
  have hx3:FxOk ⟨fx.ro,a3.defers,fx.mx⟩ γ' a3.defers w2:=by
   have:=(hx.step (w':=w2) (ds':=a3.defers) g2')
   exact this
  refine wpIn_mono (hbody x s s' hs' ⟨fx.ro,a3.defers,fx.mx⟩ γ' a3 w2 s6 hx3) λe5 a5 w5 hl=>?_
  obtain⟨⟨st5,γ5,k1',⟨k2,k2p⟩,k3,rfl,k4⟩,k5⟩:=hl
  obtain⟨γ6,m1,m2,m3⟩:=k4 γ5 a5.tmps w5 k1'
  have k5':=k5 rfl
  have hrlt:w.heap.size < w2.heap.size:=(wk.1 hr2).1
  have hblt:bm < w2.heap.size:=(wk.1 hm2).1
  obtain⟨x1,x2,_⟩:=(k2.trans m2).free w.heap.size hrlt i7
  obtain⟨y1,y2,_⟩:=(k2.trans m2).free bm hblt i8
  have hmk:V7 fx.mx w γ' w2 fx.ds a3.defers:=by
   rw[hd3]
   obtain⟨Ds,b0',b1',b2',b3'⟩:=i3
   refine⟨Ds,b0',b1',b2',λD hD=>?_⟩
   obtain⟨t1,t2,t3⟩:=b3' D hD
   refine⟨t1,?_,t3⟩
   have hDr:D≠w.heap.size:=λe'=>by rw[e',i5] at t2;cases t2
   rw[show w2.heap[D]?=w1.heap[D]? from World.putObj_heap_other hDr,hwh.1];exact t2
  have hmk2:V7 fx.mx w γ6 w5 fx.ds a5.defers:=by
   have h1:w.heap.size<=w2.heap.size:=by omega
   exact(hmk.trans k2 k3 h1).trans m2 (.of rfl) (Nat.le_trans h1 k2.size)
  have pr:Pin γ st.b st.u γ6 (S s').b (S s').u:=(i2p.trans (k2p.trans m3))
  show Exit.inBlock B2 _ .normal a5 w5
  refine⟨(Z.filter λq=>!(seen.push e.born).contains q.1.born).length,?_,s',γ6,seen.push e.born,clock,m1,⟨(g2'.trans k2).trans m2,pr⟩,hmk2,k5'.trans hit3,x1.trans hr2,y1.trans hm2,x2,y2,zD _,hrest,rfl⟩
  rw[<-i11]
  have:=hperm.length_eq
  simp only[wj,wG] at this
  omega
theorem TV.rangeMap{σ α:Type}{ty:Ty α}{z b mt kt et n:Nat}{ex:Bool}{l:List α}{kd:IntKind}{fv:α->Int}{i29 i30 i31 i32 B B2:Nat}{ops29 ops30 ops31 ops32:Array Oper}{tm t0 it tn tb te tw tv:Nat}{st:St}{S:σ->St}{body:α->σ->Option σ}{s0 r:σ}
  (h29:opsOf ops29=[(.move (.tmp tm),some t0,none),(.range mt (.tmp t0),some it,none)]) (h30:opsOf ops30=[(.next (.tmp it) false,some tn,none),(.extract (.tmp tn) 0,some tb,none)])
  (h31:opsOf ops31=[(.entry (.tmp it),some te,none),(.extract (.tmp te) 1,some tw,none),(.assign (.tmp tw),some tv,none)]) (h32:(opsOf ops32).all (λp=>p.2.1 != some it)=true)
  (hne:it≠tn/\it≠tb/\it≠te/\it≠tw/\it≠tv/\it≠t0) (hlt:t0 < n/\it < n/\tn < n/\tb < n/\te < n/\tw < n/\tv < n)
  (hmt:P.underlying mt=some (.map kt et)) (hmz:mva z=false/\mvn z=1) (hM:J8<=z) (htm:st.t tm=.mp b) (hb:st.b b=some ⟨z,ex,l.map ty.c⟩) (hn:st.n=n) (hty:∀x,(ty.c x).drop (mkn z)=[.int kd (fv x)])
  (hS:∀s,(S s).n=n/\(S s).t it=.undef/\(S s).t tn=.undef/\(S s).t tb=.undef/\(S s).t te=.undef/\(S s).t tw=.undef/\(S s).t tv=.undef)
  (h0:Gst G (((st.setT t0 .undef).setT it .undef).delB b) (S s0))
  (hbody:∀x s s',body x s=some s'->W3 P G ops32 (List.range ops32.size) ((S s).setT tv (.int kd (fv x))) (λe st'=>e=.normal/\Gst G st' (S s')))
  (hcomm:∀x y s,(body x s).bind (body y)=(body y s).bind (body x)) (hr:foldB body l s0=some r) :
  TV P G (.seq (.region i29 ops29 false) (.block B (.loop (.seq (.region i30 ops30 false) (.seq (.cond (.tmp tb) .skip (.exit B)) (.block B2 (.seq (.region i31 ops31 false) (.region i32 ops32 false)))))))) st (λe st'=>e=.normal/\st'=S r):=by
 have f32:∀(i:Nat) (o:Oper),ops32[i]?=some o->o.dst≠some it:=λi o ho=>by
  have hm:(o.op,o.dst,o.guard)∈opsOf ops32:=(by grind)
  grind
 exact TV.rangeMapC (C:=.region i32 ops32 false) h29 h30 h31 hne hlt hmt hmz hM htm hb hn hty hS h0 (λx s s' hs' fx γ a w hs hx=>wpIn_region (C1 f32 _ _ _ (hbody x s s' hs' fx γ a w hs hx))) hcomm hr
end
def vec(f:zf):List Bool:=[f 0,f 1,f 2,f 3,f 4,f 5,f 6,f 7,f 8,f 9,f 10,f 11,f 12,f 13,f 14,f 15,f 16,f 17,f 18,f 19,f 20,f 21,f 22,f 23,f 24,f 25,f 26,f 27,f 28,f 29,f 30,f 31]
def K8(f:zf):List V:=(vec f).map V.bool
def upd(f:zf)(n:Nat)(v:Bool):Nat->Bool:=λi=>bif i==n then v else f i
theorem vec_get(f:zf)(i:Nat):(vec f)[i]?=if i < 32 then some (f i) else none:=by
 have e:vec f=(List.range 32).map f:=rfl
 grind
theorem vec_set(f:zf)(n:Nat)(v:Bool):(vec f).set n v=vec (upd f n v):=by
 refine List.ext_getElem? λi=>?_
 rw[List.getElem?_set,vec_get,vec_get]
 have hl:(vec f).length=32:=rfl
 rw[hl]
 unfold upd
 by_cases h:n=i
 ·subst h;simp
 grind
def ReW.putV(i:Nat)(t:Ty Bool)(f:zf)(j:Nat)(y:Bool):ReW:=
 ⟨[.b i (some ⟨1,true,((vec f).map t.c).set j (t.c y)⟩)],[.b i (some ⟨1,true,(vec (upd f j y)).map t.c⟩)],by rw[<-vec_set,List.map_set],[i],λb k h _=>by
  simp only[we,Wr.b.injEq,zp] at h
  obtain⟨_,rfl⟩:=h
  exact t.data _⟩
section
variable {P:Program} {G:zd}
def Rule.add64(f:FuncId){fn:Func}(ox oy oc:Operand)(ts:Array TypeId)(d:Nat)(x y c:Int)(hf:P.funcs[f]?=some fn)(hname:(fn.name== "runtime.NumGoroutine")=false)(hb:fn.body.isNone=true)(hn:Extern.findNext fn=none)
    (he:Extern.find fn=some add64Entry):Rule P G Unit where
  op:=.call { callee:=.value (.func f),args:=#[ox,oy,oc],argTypes:=ts }
  dst:=some d
  vals:=[(ox,.int .u64 x),(oy,.int .u64 y),(oc,.int .u64 c)]
  blks:=[]
  o:=bif decide (0<=x)&&decide (0<=y)&&decide (0<=c)&&decide (c<=1) then some () else none
  ws:=λ_=>[.t d (.tup [.int .u64 ((x+y+c) % 18446744073709551616),.int .u64 ((x+y+c) / 18446744073709551616)])]
  dt:=[]
  dat:=(by grind)
  ok:=λ_ ho q st hop hdst hvs _ hd=>by
    have hc:0<=x/\0<=y/\0<=c/\c<=1:=by
      grind
    obtain⟨hdn,hu⟩:=hd d rfl
    have key:G1 P G q st (st.put (some d) (.tup [.int .u64 ((x+y+c) % 18446744073709551616),.int .u64 ((x+y+c) / 18446744073709551616)])):=by
      rw[<-hdst]
      refine D3 (by grind [H7]) λγ a w hs=>?_
      have e1:=(hvs (ox,.int .u64 x) (by simp) γ a w hs).int_inv
      have e2:=(hvs (oy,.int .u64 y) (by simp) γ a w hs).int_inv
      have e3:=(hvs (oc,.int .u64 c) (by simp) γ a w hs).int_inv
      refine⟨.tuple #[.int .u64 ((x+y+c) % 18446744073709551616),.int .u64 ((x+y+c) / 18446744073709551616)],?_,.tup _ _ rfl λi c v hc hv=>?_⟩
      · have e : (execOp a.eval q) = (do let d <- resolve a.eval { callee := .value (.func f), args := #[ox, oy, oc], argTypes := ts } q.type; invoke d.target d.args) := by
          unfold execOp;rw[hop]
        have hr:=run_callFunc_extern hf hname hb hn he #[.int .u64 x,.int .u64 y,.int .u64 c] w
        rw[run_add64 x y c hc.1 hc.2.1 hc.2.2.1 hc.2.2.2] at hr
        rw[e]
        have ef:a.eval (.func f)=.func (.func f) #[] #[]:=rfl
        grind [resolve,Deferred.ofValue,invoke,Result.andThen]
      · rcases i with _|_|i
        · simp at hc hv;subst hc;subst hv;exact .data (.int _ _)
        · simp at hc hv;subst hc;subst hv;exact .data (.int _ _)
        · simp at hc
    exact key
end
abbrev W32:=BitVec 32
def iv(b:W32):Int:=(b.toNat:Int)
theorem T3(b:W32):0<=iv b/\iv b < 4294967296:=by unfold iv;omega
theorem bv_iv(b:W32):BitVec.ofInt 32 (iv b)=b:=by grind [iv]
theorem wrapU(n:Int):IntKind.u32.wrap n=n % 4294967296:=IntKind.wrap_u32 n
theorem wrap_iv(b:W32):IntKind.u32.wrap (iv b)=iv b:=by rw[wrapU];have:=T3 b;omega
theorem ivN(n:Nat):iv (BitVec.ofNat 32 n)=(n:Int) % 4294967296:=by grind [BitVec.toNat_ofNat,iv]
theorem xor_iv(a b:W32):K9 .u32 (iv a) (iv b)=iv (a ^^^ b):=by
 show IntKind.u32.wrap ((BitVec.ofInt 32 (iv a) ^^^ BitVec.ofInt 32 (iv b)).toNat:Int)=_
 rw[bv_iv,bv_iv];exact wrap_iv _
theorem and_iv(a b:W32):Y1 .u32 (iv a) (iv b)=iv (a &&& b):=by
 show IntKind.u32.wrap ((BitVec.ofInt 32 (iv a) &&& BitVec.ofInt 32 (iv b)).toNat:Int)=_
 rw[bv_iv,bv_iv];exact wrap_iv _
theorem or_iv(a b:W32):bOr .u32 (iv a) (iv b)=iv (a ||| b):=by
 show IntKind.u32.wrap ((BitVec.ofInt 32 (iv a) ||| BitVec.ofInt 32 (iv b)).toNat:Int)=_
 rw[bv_iv,bv_iv];exact wrap_iv _
theorem not_iv(a:W32):K9 .u32 4294967295 (iv a)=iv (~~~a):=by
 have:(4294967295:Int)=iv (BitVec.allOnes 32):=by decide
 rw[this,xor_iv,BitVec.allOnes_xor]
theorem add_iv(a b:W32):A5 (iv a+iv b)=iv (a+b):=by
 show IntKind.u32.wrap _=_
 grind [wrapU,iv]
theorem shr_iv(a:W32)(k:Nat)(hk:k<=32):Z3 .u32 (iv a) (k:Int)=iv (a >>> k):=by
 show (iv a).fdiv (2 ^ (min (k:Int).toNat 32))=_
 grind [Int.toNat_natCast,Nat.min_eq_left,Int.fdiv_eq_ediv_of_nonneg,Int.pow_nonneg,BitVec.toNat_ushiftRight,Nat.shiftRight_eq_div_pow,iv]
theorem shl_iv(a:W32)(k:Nat)(hk:k<=32):N6 .u32 (iv a) (k:Int)=iv (a <<< k):=by
 show IntKind.u32.wrap (iv a * 2 ^ (min (k:Int).toNat 32))=_
 grind [Int.toNat_natCast,Nat.min_eq_left,wrapU,BitVec.toNat_shiftLeft,Nat.shiftLeft_eq,iv]
theorem rot_iv(a:W32)(k:Nat)(h0:0 < k)(hk:k < 32):bOr .u32 (N6 .u32 (iv a) ((32 - k:Nat):Int)) (Z3 .u32 (iv a) (k:Int))=iv (a.rotateRight k):=by
 grind [shl_iv,shr_iv,or_iv,BitVec.rotateRight_def,Nat.mod_eq_of_lt,BitVec.or_comm]
theorem upd_step(g:zf)(k:Nat):upd (λi=>decide (i < k)&&g i) k (g k)=λi=>decide (i < k+1)&&g i:=by
 funext i
 unfold upd
 grind
theorem msb_full(b:W32):(λi=>decide (i < 32)&&b.getMsbD i)=b.getMsbD:=by
 grind
def wAt(l:List W32)(i:Nat):W32:=(l[i]?).getD 0
def sg0(x:W32):W32:=x.rotateRight 7 ^^^ x.rotateRight 18 ^^^ x >>> 3
def sg1(x:W32):W32:=x.rotateRight 17 ^^^ x.rotateRight 19 ^^^ x >>> 10
def bg0(x:W32):W32:=x.rotateRight 2 ^^^ x.rotateRight 13 ^^^ x.rotateRight 22
def bg1(x:W32):W32:=x.rotateRight 6 ^^^ x.rotateRight 11 ^^^ x.rotateRight 25
def nxt(l:List W32)(k:Nat):W32:=wAt l (k - 16)+wAt l (k - 7)+sg0 (wAt l (k - 15))+sg1 (wAt l (k - 2))
def M6(b:Nat->W32):Nat->List W32
 | 0=>[]
 | k+1=>M6 b k++[if k < 16 then b k else nxt (M6 b k) k]
structure V8 where
 a:W32
 b:W32
 c:W32
 d:W32
 e:W32
 f:W32
 g:W32
 h:W32
def one1(v:V8)(k w:W32):W32:=v.h+bg1 v.e+((v.e &&& v.f) ^^^ (~~~v.e &&& v.g))+k+w
def two2(v:V8):W32:=bg0 v.a+((v.a &&& v.b) ^^^ (v.a &&& v.c) ^^^ (v.b &&& v.c))
def rd(v:V8)(k w:W32):V8:=⟨one1 v k w+two2 v,v.a,v.b,v.c,v.d+one1 v k w,v.e,v.f,v.g⟩
def rds(K W:List W32)(v:V8):Nat->V8
 | 0=>v
 | k+1=>rd (rds K W v k) (wAt K k) (wAt W k)
def V8.add(v u:V8):V8:=⟨v.a+u.a,v.b+u.b,v.c+u.c,v.d+u.d,v.e+u.e,v.f+u.f,v.g+u.g,v.h+u.h⟩
def blkS(K:List W32)(b:Nat->W32)(v:V8):V8:=v.add (rds K (M6 b 64) v 64)
theorem sched_len(b:Nat->W32):∀k,(M6 b k).length=k
 | 0=>rfl
 | k+1=>by rw[M6,wM,sched_len b k];rfl
theorem iv_at{l:List Int}{s:List W32}{k i:Nat}{x:Int}(h:l.take k=s.map iv)(hi:i < k)(hx:l[i]?=some x):x=iv (wAt s i):=by
 have e:(l.take k)[i]?=some x:=by grind
 rw[h,zV] at e
 obtain⟨y,h1,rfl⟩:=zw.1 e
 rw[wAt,h1];rfl
theorem take_set_iv{l:List Int}{s:List W32}{k:Nat}{w:W32}(h:l.take k=s.map iv)(hk:k < l.length):(l.set k (iv w)).take (k+1)=(s++[w]).map iv:=by
 rw[List.take_add_one,List.take_set_of_le (zD k),h,List.getElem?_set_self hk,wA];rfl
end Go.EV
