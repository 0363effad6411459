/- Part Y5. -/
import Derived.Test.YtjdieimefebnfaaGreatDoorY4
import Derived.RangeFuncRecord
import Derived.RangeFuncNested
set_option linter.unusedVariables false
set_option linter.unusedSimpArgs false
namespace Go.EV
open Go
theorem It{α β:Type}(f:Nat->Nat)(h:Nat×α->β)(c c':Nat):∀(l:List (Nat×α)),(∀p,p∈l->(f p.1=c↔p.1=c'))->(l.map λp=>(f p.1,h p)).find? (λx=>x.1==c)=(l.find? λx=>x.1==c').map λp=>(f p.1,h p)
 | [],_=>rfl
 | p :: l,hp=>by
  have ih:=It f h c c' l (by grind);grind
theorem O8{α β:Type}(h:Nat×α->β)(c:Nat)(l:List (Nat×α)):(l.map λp=>(p.1,h p)).find? (λx=>x.1==c)=(l.find? λx=>x.1==c).map λp=>(p.1,h p):=
 It (λx=>x) h c c l λ_ _=>Iff.rfl
theorem D.UA(d:D)(b:Nat):d.st.b b=(match d.bs.find? (λp=>p.1==b) with|some p=>some p.2|none=>none):=rfl
theorem D.Qhd(d:D)(b:Nat):d.st.t b=(match d.ts.find? (λp=>p.1==b) with|some p=>p.2|none=>.undef):=rfl
theorem Ud{b:Nat}{us:List Nat}(c:Nat):ZC (b :: us) c=if c=b then true else ZC us c:=by
 grind [ZC]
mutual
theorem FH{u u':zl}{f:Nat->Nat}(h:∀b,u b=true->u' (f b)=true):∀c:V,okV u c=true->okV u' (W0 f c)=true
 | .int _ _,_=>rfl
 | .bool _,_=>rfl
 | .str _,_=>rfl
 | .Zi,_=>rfl
 | .Zx,_=>rfl
 | .QB _,_=>rfl
 | .Qh,_=>rfl
 | .Zw _,_=>rfl
 | .sl _ _ _,_=>rfl
 | .snap _,_=>rfl
 | .undef,_=>rfl
 | .ref b _ _,hc=>by grind [W0,okV]
 | .ptr b _ _,hc=>by grind [W0,okV]
 | .mp b,hc=>by grind [W0,okV]
 | .fn _ a c,hc=>by
  simp only[W0,okV,zF] at hc ⊢;exact⟨MT h a hc.1,MT h c hc.2⟩
 | .agg l,hc=>by simp only[W0,okV] at hc ⊢;exact MT h l hc
 | .Qt l,hc=>by simp only[W0,okV] at hc ⊢;exact MT h l hc
theorem MT{u u':zl}{f:Nat->Nat}(h:∀b,u b=true->u' (f b)=true):∀l:List V,Md u l=true->Md u' (P8 f l)=true
 | [],_=>rfl
 | c :: l,hc=>by
  simp only[P8,Md,zF] at hc ⊢;exact⟨FH h c hc.1,MT h l hc.2⟩
end
theorem UF{u:zl}:∀{l:List V},Md u l=true↔∀c,c∈l->okV u c=true
 | []=>by simp[Md]
 | c :: l=>by simp[Md,UF (l:=l)]
theorem uB{G:zi}{d:D}{a b:Nat}{next:D->C}{X:C}(h:PZ (.Qb a b) d next=X)(hX:∀j,C.stuck j≠X)(hd:d.Ok):∃d':D,next d'=X/\d'.Ok/\QH G d.st d'.st/\d'.n=d.n:=by
 simp only[PZ] at h;split at h
 rotate_left
 ·grind
 rename_i hub hab;simp only[beq_eq_false_iff_ne,ne_eq] at hab;simp only[WC,UR] at h;refine⟨_,h,?_⟩;have hno:∀p,p∈d.bs->p.1≠b:=λp hp e=>by
  cases hf:d.bs.find? (λx=>x.1==b) with
  | none=>grind
  | some q=>
   have:=(hd.Zp (b:=b) (k:=q.2) (by rw[D.UA,hf])).1;grind
 have hdata:∀p,d.bs.find? (λx=>x.1==p.1)=some p->p.1∈d.sy->J8 p.2.rows:=λp hp hs=>hd.sy p.1 hs p.2 (by rw[D.UA,hp])
 have fb:∀p,p∈d.bs->(K7 a b p.1=b↔p.1=a):=(by grind [K7,absurd])
 have key:∀c c',(∀p,p∈d.bs->(K7 a b p.1=c↔p.1=c'))->(match (d.bs.map λp=>(K7 a b p.1,MF d.sy p.1 (K7 a b) p.2)).find? (λx=>x.1==c) with|some p=>some p.2|none=>none)=(d.st.b c').map (Qa.Qb (K7 a b)):=λc c' hc=>by
  rw[It (K7 a b) (λp=>MF d.sy p.1 (K7 a b) p.2) c c' d.bs hc,D.UA];cases hf:d.bs.find? (λx=>x.1==c') with
  | none=>rfl
  | some p=>
   simp only[wJ];rw[WL (by grind)]
 have e:(D.st ⟨d.n,d.ts.map λp=>(p.1,W0 (K7 a b) p.2),d.bs.map λp=>(K7 a b p.1,MF d.sy p.1 (K7 a b) p.2),b :: d.us,(d.sy.filter λx=>!(x==b)).map (K7 a b)⟩)=d.st.ZS a b:=by
  unfold D.st St.ZS;simp only[D2,St.mk.injEq,true_and];refine⟨funext λi=>?_,funext λc=>?_,funext λc=>?_⟩
  ·rw[O8 (λp=>W0 (K7 a b) p.2)];cases d.ts.find? (λx=>x.1==i)<;>rfl
  ·by_cases hcb:c=b
   ·subst hcb;rw[if_pos rfl];exact key c a fb
   ·rw[if_neg hcb];by_cases hca:c=a
    ·subst hca;rw[if_pos rfl];have:(d.bs.map λp=>(K7 c b p.1,MF d.sy p.1 (K7 c b) p.2)).find? (λx=>x.1==c)=none:=List.find?_eq_none.2 λx hx hxe=>by
      obtain⟨p,hp,rfl⟩:=zM.1 hx;simp only[K7,beq_iff_eq] at hxe;grind
     rw[this]
    ·rw[if_neg hca];refine key c c λp hp=>?_;unfold K7;grind
  grind
 have mu:∀c,ZC d.us c=true->ZC (b :: d.us) (K7 a b c)=true:=(by grind [Ud,K7,ZC]);refine⟨⟨λi=>?_,λ{c k} hk=>?_,?_⟩,?_,rfl⟩
 ·rw[e];exact FH mu _ (hd.tmp i)
 ·rw[e] at hk;simp only[St.ZS] at hk;have go:∀y k0,d.st.b y=some k0->ZC (b :: d.us) (K7 a b y)=true/\∀r,r∈(k0.Qb (K7 a b)).rows->∀c,c∈r->okV (ZC (b :: d.us)) c=true:=λy k0 h0=>by
   obtain⟨h1,h2⟩:=hd.Zp h0;refine⟨mu _ h1,λr hr c hc=>?_⟩;simp only[Qa.Qb] at hr;obtain⟨r0,hr0,rfl⟩:=zM.1 hr;rw[WO] at hc;obtain⟨c0,hc0,rfl⟩:=zM.1 hc;grind [FH]
  by_cases hcb:c=b
  ·subst hcb;rw[if_pos rfl] at hk;obtain⟨k0,h1,rfl⟩:=zG.1 hk;grind [K7]
  ·rw[if_neg hcb] at hk;split at hk
   ·simp at hk
   ·rename_i hca;obtain⟨k0,h1,rfl⟩:=zG.1 hk;grind [K7]
 ·rw[e];intro x hx k hk;obtain⟨y,hy,rfl⟩:=zM.1 hx;obtain⟨hy1,hy2⟩:=List.mem_filter.1 hy;simp only[wo,beq_eq_false_iff_ne,ne_eq] at hy2;have src:∃k0,d.st.b y=some k0/\k=k0.Qb (K7 a b):=by
   simp only[St.ZS] at hk;by_cases hya:y=a
   ·subst hya;have e2:K7 y b y=b:=by simp[K7]
    rw[e2,if_pos rfl] at hk;grind [Option.map_eq_some_iff]
   ·have e2:K7 a b y=y:=by simp[K7,hya]
    rw[e2,if_neg hy2,if_neg hya] at hk;grind [Option.map_eq_some_iff]
  obtain⟨k0,h1,rfl⟩:=src;have:=hd.sy y hy1 k0 h1;rw[this.Qb];exact this
 ·rw[e];exact QH.ZS hab hub
theorem qJ{G:zi}{d:D}{l:List Nat}{next:D->C}{X:C}(h:PZ (.drop l) d next=X)(hX:∀j,C.stuck j≠X)(hd:d.Ok):∃d':D,next d'=X/\d'.Ok/\QH G d.st d'.st/\d'.n=d.n:=by
 simp only[PZ] at h;split at h
 rotate_left
 ·grind
 rename_i hall;simp only[zJ,zF] at hall;refine⟨_,h,?_⟩;have aJ:∀p,p∈d.bs.filter (λp=>!l.contains p.1)->d.bs.find? (λx=>x.1==p.1)=some p->∀r,r∈p.2.rows->∀c,c∈r->okV (ZC (d.us.filter λb=>!l.contains b)) c=true:=λp hp hf r hr c hc=>by
  have:=(hall p hp).2;simp only[Mn,zY,wj,zI,zJ] at this;rcases this with h1|h1
  ·exact N9 (hd.sy p.1 h1 p.2 (by rw[D.UA,hf]) r hr c hc) _
  grind
 have F:N5 d.st (D2 d.n (d.ts.filter λp=>okV (ZC (d.us.filter λb=>!l.contains b)) (d.st.t p.1)) (d.bs.filter λp=>!l.contains p.1) (d.us.filter λb=>!l.contains b)):=by
  refine⟨rfl,λi=>?_,λb=>?_,λb hb=>MB (Ja hb)⟩
  ·rw[Fy];cases hq:okV (ZC (d.us.filter λb=>!l.contains b)) (d.st.t i) with
   | false=>grind
   | true=>
    rw[O9 (q:=λj=>okV (ZC (d.us.filter λb=>!l.contains b)) (d.st.t j)) hq];exact .inr ⟨rfl,hq⟩
  ·rw[KC];cases hq:(!l.contains b) with
   | false=>grind
   | true=>
    rw[O9 (q:=λj=>!l.contains j) hq];refine .inr ⟨rfl,λk hk=>?_⟩;rw[D.UA] at hk;split at hk
    ·rename_i p hp;simp only[zD] at hk;subst hk;obtain⟨h1,rfl⟩:=P4 hp;have hm:p∈d.bs.filter λp=>!l.contains p.1:=(by grind);exact⟨(hall p hm).1,aJ p hm hp⟩
    ·simp at hk
 refine⟨D.Ok.WS F λb hb k hk=>?_,QH.forget F,rfl⟩;rcases F.b b with e|⟨e,_⟩
 ·have:(none:Option Qa)=some k:=e.symm.trans hk;simp at this
 ·exact hd.sy b hb k (e.symm.trans hk)
theorem KZ{f:V->Option V}{g:V->V}:∀{l r:List V},M1 f l=some r->(∀c,c∈l->f c=some (g c))->r=l.map g
 | [],r,h,_=>by grind [M1]
 | c :: l,r,h,hg=>by
  simp only[M1,hg c (by simp)] at h;split at h
  ·rename_i y r' h1 h2;simp only[zD] at h h1;subst h1 h;rw[KZ h2 λc hc=>hg c (by simp[hc])];rfl
  ·simp at h
theorem AD{look:zj}{c:V}(h:H2 c=true):O2 (D4 look 1 c)=some c.strip:=by
 cases c<;>simp_all [H2,D4,O2,V.strip];obtain⟨rfl,rfl⟩:=h;simp[M1]
theorem Ty.Qoe{α:Type}(t:Ty α)(x:α):t.d x=(t.c x).map V.strip:=
 KZ (t.vw (λ_=>none) x) λc hc=>AD (zJ.1 (t.cd x) c hc)
theorem K4.strip{Qp:Nat->Nat}{w:World}{c:V}{v:Value}(h:K4 Qp w c v):K4 Qp w c.strip v:=by
 cases c<;>try exact h
 exact h.sJ
theorem Ty.Qxc{α:Type}(t:Ty α){Qp:Nat->Nat}{w:World}{o:Bool}{z:Nat}{l:List α}{v:Value}(h:K4 Qp w (.sl o z (l.map t.c)) v):K4 Qp w (.sl false z (l.map t.d)) v:=by
 have e:l.map t.d=(l.map t.c).map (·.map V.strip):=by
  rw[wX];exact wE λx _=>t.Qoe x
 have hlen:(l.map t.d).length=(l.map t.c).length:=by simp
 generalize hg:l.map t.c=rows at h e hlen;cases h with
 | sl _ _ _ B o cap vs h1 h2 h3 h4=>
  have:=K4.sl (Qp:=Qp) (w:=w) false z (l.map t.d) B o cap vs (by grind) (by grind) (by grind) (λi c hc=>by
    rw[e,T2,wc,zG] at hc;obtain⟨c0,k1,rfl⟩:=hc;exact(h4 i c0 k1).strip)
  grind
 | Zb _ _ a=>
  rw[e];exact .Zb false z a
theorem Nv{st:St}{b:Nat}{k:Qa}{α:Type}{t:Ty α}{l:List α}:∀(n:Nat) (c:V),(∀e,e∈XW b k.rows n c->k.rows.take e.2.2=l.map t.c)->DK st b k (IV b k.size (l.map t.d) n) c
 | 0,c,_=>λγ γ' w bs' u' h1 h2 map v hr=>by
  show Qy γ' w bs' u' .undef v;exact .undef v
 | n+1,c,he=>λγ γ' w bs' u' h1 h2 map v hr=>by
  have ih:=Nv (st:=st) (b:=b) (k:=k) (t:=t) (l:=l) n
  have sub:∀(cs:List V),(∀e,e∈cs.flatMap (XW b k.rows n)->k.rows.take e.2.2=l.map t.c)->∀(vs:List Value),vs.length=cs.length->(∀(i:Nat) (c:V) (v:Value),cs[i]?=some c->vs[i]?=some v->Qy γ w st.b st.u c v)->
    ∀(i:Nat) (c:V) (v:Value),(cs.map (IV b k.size (l.map t.d) n))[i]?=some c->vs[i]?=some v->Qy γ' w bs' u' c v:=λcs hcs vs hl hv i c v hc hx=>by
   rw[wc,zG] at hc;obtain⟨c0,k1,rfl⟩:=hc;exact ih c0 (λe hee=>(by grind)) γ γ' w bs' u' h1 h2 map v (hv i c0 v k1 hx)
  cases c<;>simp only[IV]
  case ref b' off len=>
   split
   ·rename_i hb;have hb':b'=b:=by simpa using hb
    subst hb';split
    ·have hl:k.rows.take len=l.map t.c:=he (b',k.rows,len) (by simp[XW])
     have:=map (.ref b' 0 len) v hr;simp only[sD,if_true,List.drop_zero] at this;rw[hl] at this;cases this with
     | data h=>exact .data (t.Qxc h)
    ·
     cases hr with
     | data h=>cases h
     | ref=>exact .Qs _ _ _ _ h1 h2 rfl
     | ZB=>exact .Qs _ _ _ _ h1 h2 rfl
     | ZQ=>exact .Qs _ _ _ _ h1 h2 rfl
     | Qs _ _ _ _ _ _ h3=>exact .Qs _ _ _ _ h1 h2 h3
   ·rename_i hb;have:=map (.ref b' off len) v hr;simp_all [if_neg,sD]
  case fn f x y=>
   obtain⟨fs,cs,rfl,l1,l2,p1,p2⟩:=hr.UT;simp only[XW] at he;exact .fn f _ _ fs cs (by simpa using l1) (by simpa using l2) (sub x (λe hee=>(by grind)) fs l1 p1) (sub y (λe hee=>(by grind)) cs l2 p2)
  case agg cs=>
   obtain⟨vs,rfl,l1,p1⟩:=hr.QX;exact .agg _ vs (by simpa using l1) (sub cs he vs l1 p1)
  case Qt cs=>
   obtain⟨vs,rfl,l1,p1⟩:=hr.WX;exact .Qt _ vs (by simpa using l1) (sub cs he vs l1 p1)
  all_goals exact map _ v hr
theorem EO{b z:Nat}{rows:List (List V)}{n:Nat}{c:V}(h:H2 c=true):IV b z rows (n+1) c=c:=by
 cases c<;>simp_all [H2,IV]
theorem lQ(b z:Nat)(rows:List (List V)):∀(n:Nat) (c:V),(IV b z rows n c).QM=true->IV b z rows n c=c
 | 0,c,h=>by simp[IV,V.QM] at h
 | n+1,c,h=>by
  cases c<;>simp only[IV] at h ⊢;all_goals first|(simp[V.QM] at h;done)|skip
  grind [V.QM]
theorem Fm{u u':zl}(h:∀b,u b=true->u' b=true)(b z:Nat)(rows:List (List V)):∀(n:Nat) (c:V),okV u c=true->okV u' (IV b z rows n c)=true
 | 0,c,_=>rfl
 | n+1,c,hc=>by
  have ih:=Fm h b z rows n
  have lst:∀l:List V,Md u l=true->Md u' (l.map (IV b z rows n))=true:=λl hl=>UF.2 λc hc=>by
   obtain⟨c0,h0,rfl⟩:=zM.1 hc;grind [UF]
  cases c<;>simp only[IV,okV,zF] at hc ⊢
  case ref b' off len=>
   split
   ·split
    ·rfl
    ·exact h _ hc
   ·exact h _ hc
  case ptr=>exact h _ hc
  case mp=>exact h _ hc
  case fn f x y=>grind
  case agg l=>exact lst l hc
  grind
theorem Sj{G:zi}{d:D}{v:Zs}{vn:Nat}{next:D->C}{X:C}(h:PZ (.share v vn) d next=X)(hX:∀j,C.stuck j≠X)(he:ghE (.share v vn) d=List.replicate (vn+1) v.pQ)(hd:d.Ok) :
  ∃d':D,next d'=X/\d'.Ok/\QH G d.st d'.st/\d'.n=d.n:=by
 simp only[PZ] at h;split at h
 rotate_left
 ·grind
 rename_i k hk;split at h
 rotate_left
 ·grind
 rename_i hdat;simp only[WC,UR] at h;refine⟨_,h,?_⟩;simp only[ghE,hk] at he;have hdata:J8 k.rows:=by
  simp only[zY,wj,zI,zJ] at hdat;rcases hdat with h1|h1
  ·exact hd.sy v.b h1 k hk
  ·exact λr hr c hc=>h1 r hr c hc
 let g:=IV v.b k.size (v.l.map v.ty.d) 6
 have rowsE:∀(n:Nat) (c:V) (e:Nat×List (List V)×Nat),e∈XW v.b k.rows n c->e.2.1=k.rows:=by
  intro n;induction n with
  | zero=>grind [XW]
  | succ n ih=>
   intro c e h;have fl:∀l:List V,e∈l.flatMap (XW v.b k.rows n)->e.2.1=k.rows:=(by grind);cases c<;>simp only[XW,zZ] at h
   case ref b' off len=>
    grind
   case fn f x y=>
    grind
   case agg l=>exact fl _ h
   grind
 let E:=(d.ts.flatMap λp=>XW v.b k.rows 6 p.2)++d.bs.flatMap λp=>match p.1==v.b || d.sy.contains p.1 with
   | true=>[]
   | false=>p.2.rows.flatMap λr=>r.flatMap (XW v.b k.rows 6)
 have hE:E=List.replicate (vn+1) v.pQ:=he
 have allRows:∀e,e∈E->e.2.1=k.rows:=λe hm=>by
  rcases wk.1 hm with hm|hm
  ·grind
  ·obtain⟨p,_,hx⟩:=wK.1 hm;split at hx
   ·simp at hx
   ·obtain⟨r,_,hx⟩:=wK.1 hx;obtain⟨c,_,hx⟩:=wK.1 hx;grind
 have hlens:∀e,e∈E->k.rows.take e.2.2=v.l.map v.ty.c:=λe hm=>by
  have h1:=allRows e hm;rw[hE] at hm;obtain rfl:=(List.mem_replicate.1 hm).2;rw[<-h1];exact v.h
 have Kr:∀c,(∀e,e∈XW v.b k.rows 6 c->e∈E)->DK d.st v.b k g c:=(by grind [Nv])
 have goodData:∀c,H2 c=true->DK d.st v.b k g c:=λc hc γ γ' w bs' u' h1 h2 map x hr=>by
  show Qy γ' w bs' u' (IV v.b k.size (v.l.map v.ty.d) (5+1) c) x;rw[EO hc]
  have:=map c x hr;cases c<;>first|exact this|simp[H2] at hc
 have e:(D.st ⟨d.n,d.ts.map (λp=>(p.1,IV v.b k.size (v.l.map v.ty.d) 6 p.2)),Fh d v k,v.b :: d.us,d.sy⟩)=d.st.shr v.b g:=by
  unfold D.st St.shr;simp only[D2,St.mk.injEq,true_and];refine⟨funext λi=>?_,funext λc=>?_,funext λc=>Ud c⟩
  ·rw[O8 (λp=>IV v.b k.size (v.l.map v.ty.d) 6 p.2)];cases d.ts.find? (λx=>x.1==i)<;>rfl
  ·unfold Fh;rw[O8];by_cases hc:c=v.b
   ·grind
   ·rw[if_neg hc,O9 (q:=λj=>!(j==v.b)) (by simpa using hc)];cases hf:d.bs.find? (λx=>x.1==c) with
    | none=>rfl
    | some p=>
     simp only[wJ,zD];split
     ·rename_i hs;have hdr:J8 p.2.rows:=hd.sy p.1 (by simpa using hs) p.2 (by rw[D.UA,(P4 hf).2,hf]);have:p.2.rows.map (·.map g)=p.2.rows:=by
       conv=>rhs;rw[<-List.map_id p.2.rows]
       refine wE λr hr=>?_;show r.map g=r
       conv=>rhs;rw[<-List.map_id r]
       exact wE λc hc=>EO (hdr r hr c hc)
      simp_all
     ·rfl
 have gs:=QH.shr (G:=G) (st:=d.st) hk hdata (g:=g) (λi=>by
   rw[D.Qhd];split
   ·grind
   ·exact λγ γ' w bs' u' _ _ _ v _=>.undef v)
  (λx q hx hq r hr c hc=>by
   rw[D.UA] at hq;split at hq
   ·rename_i p hp;simp only[zD] at hq;subst hq;obtain⟨hp1,rfl⟩:=P4 hp;cases hs:d.sy.contains p.1 with
    | true=>exact goodData c (hd.sy p.1 (by simpa using hs) p.2 (by rw[D.UA,hp]) r hr c hc)
    | false=>
     refine Kr c λe hm=>List.mem_append_right _ (wK.2 ⟨p,hp1,?_⟩);grind
   ·simp at hq) (lQ _ _ _ 6)
 have mu:∀c,ZC d.us c=true->ZC (v.b :: d.us) c=true:=(by grind [Ud]);refine⟨⟨λi=>?_,λ{c q} hq=>?_,λx hx q hq=>?_⟩,by grind,rfl⟩
 ·rw[e];exact Fm mu _ _ _ 6 _ (hd.tmp i)
 ·rw[e] at hq;simp only[St.shr] at hq;split at hq
  ·simp at hq
  obtain⟨q0,h0,rfl⟩:=zG.1 hq;obtain⟨h1,h2⟩:=hd.Zp h0;refine⟨mu _ h1,λr hr c hc=>?_⟩;obtain⟨r0,hr0,rfl⟩:=zM.1 hr;obtain⟨c0,hc0,rfl⟩:=zM.1 hc;grind [Fm]
 ·rw[e] at hq;simp only[St.shr] at hq;split at hq
  ·simp at hq
  obtain⟨q0,h0,rfl⟩:=zG.1 hq;have hdr:=hd.sy x hx q0 h0;intro r hr c hc;obtain⟨r0,hr0,rfl⟩:=zM.1 hr;obtain⟨c0,hc0,rfl⟩:=zM.1 hc;have:=hdr r0 hr0 c0 hc0;grind [EO]
theorem PI{G:zi}{d:D}{b x j size:Nat}{next:D->C}{X:C}(h:PZ (.Kb b x j size) d next=X)(hX:∀j,C.stuck j≠X)(hd:d.Ok):∃d':D,next d'=X/\d'.Ok/\QH G d.st d'.st/\d'.n=d.n:=by
 simp only[PZ] at h;split at h
 rotate_left
 ·grind
 rename_i k hk hub hsy;simp only[Bool.or_eq_false_iff,Bool.not_eq_false',zI] at hub;obtain⟨hub,hM⟩:=hub;split at h
 rotate_left
 ·grind
 rename_i r rs hrows;split at h
 rotate_left
 ·grind
 rename_i hcell;refine⟨_,h,?_⟩;have hxb:x≠b:=λe=>by subst e;have:=(hd.Zp hk).1;grind
 have hsx:¬x∈d.sy:=by grind
 let d':D:={ d with bs:=(b,⟨size,true,[]⟩) :: (x,setCell k j (.ref b 0 0)) :: d.bs.filter (λp=>!(p.1==x)),us:=b :: d.us }
 have bb:d'.st.b b=some ⟨size,true,[]⟩:=by simp[D.UA,d']
 have bx:d'.st.b x=some (setCell k j (.ref b 0 0)):=by
  grind [D.UA,List.find?_cons_of_neg,List.find?_cons_of_pos]
 have bo:∀c,c≠b->c≠x->d'.st.b c=d.st.b c:=λc h1 h2=>by
  rw[D.UA,D.UA];simp only[d'];rw[List.find?_cons_of_neg (by simpa using λe=>h1 e.symm),List.find?_cons_of_neg (by simpa using λe=>h2 e.symm),O9 (q:=λj=>!(j==x)) (by simpa using h2)]
 have hbn:d.st.b b=none:=by
  cases hb:d.st.b b with
  | none=>rfl
  | some q=>have:=(hd.Zp hb).1;grind
 have hset:(setCell k j (.ref b 0 0)).rows=r.set j (.ref b 0 0) :: rs:=by simp[setCell,hrows]
 have mu:∀c,ZC d.us c=true->ZC (b :: d.us) c=true:=(by grind [Ud])
 have g2:QH G (d.st.Qu b ⟨size,true,[]⟩) d'.st:=by
  refine QH.cells rfl (funext λc=>?_) (λi=>Wk.refl _) λc=>?_
  ·exact Ud c
  ·by_cases hcb:c=b
   ·subst hcb;refine .inr ⟨⟨size,true,[]⟩,⟨size,true,[]⟩,by simp[St.Qu],bb,rfl,rfl,rfl,λi r' h=>by simp at h⟩
   ·by_cases hcx:c=x
    ·subst hcx;refine .inr ⟨k,setCell k j (.ref b 0 0),by simp[St.Qu,hcb,hk],bx,rfl,rfl,by grind,λi r' hr'=>?_⟩;rw[hset] at hr';rw[hrows];cases i with
     | zero=>
      simp only[qb,zD] at hr';subst hr';refine⟨r,rfl,by simp,λq c' hc'=>?_⟩;by_cases hq:q=j
      ·subst hq;have hlt:q < r.length:=(by grind);rw[List.getElem?_set_self hlt] at hc';simp only[zD] at hc';subst hc';refine⟨.Qh,hcell,λγ w v hv=>?_,(by grind)⟩;have:=hv.QL;subst this;exact .ZQ b 0 ⟨size,true,[]⟩ bb hM rfl
      ·rw[List.getElem?_set_ne (λe=>hq e.symm)] at hc';exact⟨c',hc',Wk.refl _,λ_=>.inl rfl⟩
     | succ i=>
      simp only[List.getElem?_cons_succ] at hr';exact⟨r',by simpa using hr',rfl,λq c' hc'=>⟨c',hc',Wk.refl _,λ_=>.inl rfl⟩⟩
    ·cases hc:d.st.b c with
     | none=>grind [St.Qu]
     | some q=>
      exact .inr ⟨q,q,by simp[St.Qu,hcb,hc],by rw[bo c hcb hcx,hc],rfl,rfl,rfl,λi r' hr'=>⟨r',hr',rfl,λp c' hc'=>⟨c',hc',Wk.refl _,λ_=>.inl rfl⟩⟩⟩
 refine⟨⟨λi=>N0 mu _ (hd.tmp i),λ{c q} hq=>?_,λc hc q hq=>?_⟩,(QH.Qog size hub).trans g2,rfl⟩
 ·have hq':d'.st.b c=some q:=hq;by_cases hcb:c=b
  ·subst hcb;rw[bb] at hq';simp only[zD] at hq';subst hq';exact⟨by simp[ZC],λr hr=>by simp at hr⟩
  ·by_cases hcx:c=x
   ·subst hcx;rw[bx] at hq';simp only[zD] at hq';subst hq';obtain⟨h1,h2⟩:=hd.Zp hk;refine⟨mu _ h1,λr' hr' c' hc'=>?_⟩;rw[hset] at hr';simp only[zR] at hr';rcases hr' with rfl|hr'
    ·rcases List.mem_or_eq_of_mem_set hc' with hc'|rfl
     ·exact N0 mu _ (h2 r (by simp[hrows]) c' hc')
     ·simp[okV,ZC]
    ·exact N0 mu _ (h2 r' (by simp[hrows,hr']) c' hc')
   ·rw[bo c hcb hcx] at hq';obtain⟨h1,h2⟩:=hd.Zp hq';exact⟨mu _ h1,λr hr c hc=>N0 mu _ (h2 r hr c hc)⟩
 ·have hq':d'.st.b c=some q:=hq;by_cases hcb:c=b
  ·subst hcb;rw[bb] at hq';simp only[zD] at hq';subst hq';intro r hr;simp at hr
  ·have hcx:c≠x:=λe=>hsx (e▸hc);rw[bo c hcb hcx] at hq';exact hd.sy c hc q hq'
theorem Ta{u:zl}:∀(n:Nat) (e c:V),okV u c=true->okV u (X3 n e c)=true
 | 0,_,_,h=>h
 | n+1,e,c,h=>by
  have lst:∀(es cs:List V),Md u cs=true->Md u (Ym (X3 n) es cs)=true:=by
   intro es cs;induction cs generalizing es with
   | nil=>intro h;cases es<;>exact h
   | cons c cs ih=>
    intro h;cases es with
    | nil=>exact h
    | cons e es=>
     simp only[Ym,Md,zF] at h ⊢;exact⟨Ta n e c h.1,ih es h.2⟩
  cases c<;>simp only[X3]<;>try exact h
  case Qh=>split<;>rfl
  case sl=>split<;>rfl
  case agg cs=>
   grind [okV]
  grind [okV]
theorem Ti{u:zl}:∀(es cs:List (List V)),(∀r,r∈cs->∀c,c∈r->okV u c=true)->∀r,r∈HJ es cs->∀c,c∈r->okV u c=true
 | [],cs,h=>by cases cs<;>exact h
 | _ :: _,[],_=>(by grind [HJ])
 | e :: es,c :: cs,h=>λr hr x hx=>by
  simp only[HJ,zR] at hr;rcases hr with rfl|hr
  ·obtain⟨i,hi⟩:=List.getElem?_of_mem hx;obtain⟨y,h1,h2⟩:=Jj _ _ _ _ _ hi;have hy:=h c (by simp) y (zV h1);rcases h2 with rfl|⟨e',rfl⟩
   ·exact hy
   grind [Ta]
  ·exact Ti es cs (by grind) r hr x hx
theorem TE{G:zi}{d:D}{b:Nat}{es:List (List V)}{next:D->C}{X:C}(h:PZ (.tell b es) d next=X)(hX:∀j,C.stuck j≠X)(hd:d.Ok):∃d':D,next d'=X/\d'.Ok/\QH G d.st d'.st/\d'.n=d.n:=by
 simp only[PZ] at h;split at h
 rotate_left
 ·grind
 rename_i k hk hsy;simp only[UR] at h;have hsb:¬b∈d.sy:=by grind
 let d':D:={ d with bs:=(b,⟨k.size,k.Ql,HJ es k.rows⟩) :: d.bs.filter (λp=>!(p.1==b)) }
 have bb:d'.st.b b=some ⟨k.size,k.Ql,HJ es k.rows⟩:=by simp[D.UA,d']
 have bo:∀c,c≠b->d'.st.b c=d.st.b c:=λc h1=>by
  rw[D.UA,D.UA];grind
 refine⟨d',h,⟨λi=>hd.tmp i,λ{c q} hq=>?_,λc hc q hq=>?_⟩,QH.cells rfl rfl (λi=>Wk.refl _) λc=>?_,rfl⟩
 ·by_cases hcb:c=b
  ·subst hcb;rw[bb] at hq;simp only[zD] at hq;subst hq;obtain⟨h1,h2⟩:=hd.Zp hk;grind [Ti]
  ·rw[bo c hcb] at hq;exact hd.Zp hq
 ·have hcb:c≠b:=λe=>hsb (e▸hc);rw[bo c hcb] at hq;exact hd.sy c hc q hq
 ·by_cases hcb:c=b
  ·subst hcb;exact .inr ⟨k,_,hk,bb,rfl,rfl,WQ _ _⟩
  ·cases hc:d.st.b c with
   | none=>grind
   | some q=>exact .inr ⟨q,q,rfl,by grind,rfl,rfl,W2.same (λc=>EJ.same c) _⟩
theorem TW{G:zi}{d:D}{b t size:Nat}{next:D->C}{X:C}(h:PZ (.Az b t size) d next=X)(hX:∀j,C.stuck j≠X)(hd:d.Ok):∃d':D,next d'=X/\d'.Ok/\QH G d.st d'.st/\d'.n=d.n:=by
 simp only[PZ] at h;split at h
 rotate_left
 ·grind
 rename_i ht hu;simp only[Bool.or_eq_false_iff,Bool.not_eq_false',zI] at hu;obtain⟨hu,hM⟩:=hu;have mu:∀c,ZC d.us c=true->ZC (b :: d.us) c=true:=(by grind [Ud]);have e:(D.st { d with ts:=(t,.ref b 0 0) :: d.ts.filter (λx=>!(x.1==t)),bs:=(b,⟨size,true,[]⟩) :: d.bs,us:=b :: d.us })=(d.st.Qu b ⟨size,true,[]⟩).QR t (.ref b 0 0):=by
  unfold D.st St.Qu St.QR;simp only[D2,St.mk.injEq,true_and];grind
 refine⟨_,h,⟨λi=>?_,λ{c q} hq=>?_,λc hc q hq=>?_⟩,by rw[e];exact QH.sY size hM hu ht,rfl⟩
 ·rw[e];show okV _ (if i=t then _ else d.st.t i)=true;split
  ·simp[okV,ZC]
  ·exact N0 mu _ (hd.tmp i)
 ·rw[e] at hq;have hq':(if c=b then some (⟨size,true,[]⟩:Qa) else d.st.b c)=some q:=hq;split at hq'
  ·grind [Option.some.injEq,ZC]
  ·obtain⟨h1,h2⟩:=hd.Zp hq';grind [N0]
 ·rw[e] at hq;have hq':(if c=b then some (⟨size,true,[]⟩:Qa) else d.st.b c)=some q:=hq;split at hq'
  ·simp only[zD] at hq';subst hq';intro r hr;simp at hr
  ·exact hd.sy c hc q hq'
theorem G1{α:Type}{f:α->α}{l:List α}(h:∀x,x∈l->f x=x):l.map f=l:=by
 have:l.map f=l.map id:=wE λx hx=>h x hx;simp_all
theorem Dh{b m:Nat}:∀(n:Nat) (c:V),(∀e,e∈XW b [] n c->e.2.2=m)->oQ b m n c=c
 | 0,_,_=>rfl
 | n+1,c,h=>by
  cases c<;>simp only[oQ]<;>try rfl
  case ref b' off len=>
   simp only[XW] at h;split
   ·rename_i hb;rw[hb] at h;cases off with
    | zero=>simp_all
    | succ o=>rfl
   ·rfl
  case fn f x y=>
   simp only[XW] at h;rw[G1 λc hc=>Dh n c λe he=>(by grind),G1 λc hc=>Dh n c λe he=>(by grind)]
  case agg l=>
   simp only[XW] at h;rw[G1 λc hc=>Dh n c λe he=>(by grind)]
  case Qt l=>
   simp only[XW] at h;rw[G1 λc hc=>Dh n c λe he=>(by grind)]
theorem eU{G:zi}{d:D}{b m:Nat}{ns:List Nat}{hn:∀n,n∈ns->n=m}{next:D->C}{X:C}(h:PZ (.len b m ns hn) d next=X)(he:ghE (.len b m ns hn) d=ns.map λn=>(b,[],n))(hd:d.Ok) :
  ∃d':D,next d'=X/\d'.Ok/\QH G d.st d'.st/\d'.n=d.n:=by
 simp only[PZ,WC,UR] at h;have key:∀e,e∈ghE (.len b m ns hn) d->e.2.2=m:=(by grind);simp only[ghE] at key;have e1:(d.ts.map λp=>(p.1,oQ b m 6 p.2))=d.ts:=G1 λp hp=>by
  rw[Dh 6 p.2 λe he=>(by grind)]
 have e2:d.bs.map (lnB d.sy b m)=d.bs:=G1 λp hp=>by
  have hk:∀e,e∈Qy8 d.sy b p->e.2.2=m:=λe he=>key e (by grind);unfold Qy8 at hk;unfold lnB;split
  ·rfl
  ·rename_i hs;rw[hs] at hk;have:p.2.rows.map (·.map (oQ b m 6))=p.2.rows:=G1 λr hr=>G1 λc hc=>Dh 6 c λe he=>hk e (wK.2 (by grind));rw[this]
 rw[e1,e2] at h;exact⟨d,h,hd,λγ _ w hs=>⟨γ,hs,.refl γ w,.refl hs.u⟩,rfl⟩
theorem xI(b k:Nat):∀(n:Nat) (c:V),(R4 b k n c).QM=true->R4 b k n c=c
 | 0,c,h=>by simp[R4,V.QM] at h
 | n+1,c,h=>by
  cases c<;>simp only[R4] at h ⊢
  case ref b' off len=>
   grind [V.QM]
  case ptr b' i o=>grind [V.QM]
  case mp=>grind [V.QM]
  all_goals simp[V.QM] at h
theorem IE{u:zl}(b k:Nat):∀(n:Nat) (c:V),okV u c=true->okV u (R4 b k n c)=true
 | 0,c,_=>rfl
 | n+1,c,h=>by
  have lst:∀l:List V,Md u l=true->Md u (l.map (R4 b k n))=true:=λl hl=>UF.2 λc hc=>by
   obtain⟨c0,h0,rfl⟩:=zM.1 hc;exact IE b k n c0 (UF.1 hl c0 h0)
  cases c<;>simp only[R4]
  case ref b' off len=>
   split
   ·split
    ·exact h
    ·rfl
   ·exact h
  case ptr b' i o=>split;rfl;exact h
  case mp=>split;rfl;exact h
  case fn f x y=>
   simp_all [zF,okV]
  case agg l=>grind [okV]
  case Qt l=>grind [okV]
  all_goals exact h
theorem qM{G:zi}{d:D}{b k:Nat}{kb:Qa}{α:Type}{ty:Ty α}{l:List α}{next:D->C}{X:C}(h:Qu5 d b kb ((l.drop k).map ty.c) k next=X)(hd:d.Ok)(hb:d.st.b b=some kb)(hlow:b < 1000000)(hzq:kb.size < Y8)
  (hs:∀y,ty.c y=ty.d y) (hrows:kb.rows=l.map ty.c) (hk:k<=l.length):∃d':D,next d'=X/\d'.Ok/\QH G d.st d'.st/\d'.n=d.n:=by
 simp only[Qu5,WC,UR] at h;refine⟨_,h,?_⟩;let g:V->V:=R4 b k 6;let d':D:=⟨d.n,d.ts.map λp=>(p.1,R4 b k 6 p.2),(b,⟨kb.size,kb.Ql,(l.drop k).map ty.c⟩) :: (d.bs.filter λp=>!(p.1==b)).map (Hs d.sy b k),d.us,b :: d.sy⟩;have hown:∀r,r∈kb.rows->∀c,c∈r->H2 c=true/\c.QM=false:=λr hr c hc=>by
  rw[hrows] at hr;refine⟨ty.data l r hr c hc,?_⟩;obtain⟨y,_,rfl⟩:=zM.1 hr;rw[hs y,<-ty.st y] at hc;obtain⟨c0,_,rfl⟩:=zM.1 hc;exact YW c0
 have gt:=QH.cut (G:=G) (n:=6) hb hzq (by grind) hlow hown (g:=g) (λi=>rfl) (by grind) (by grind [xI])
 have hbt:∀q,d'.st.b q=if q=b then some ⟨kb.size,kb.Ql,(l.drop k).map ty.c⟩ else (d.bs.find? (λp=>p.1==q)).map λp=>(Hs d.sy b k p).2:=λq=>by
  show (match ((b,(⟨kb.size,kb.Ql,(l.drop k).map ty.c⟩:Qa)) :: (d.bs.filter λp=>!(p.1==b)).map (Hs d.sy b k)).find? (λp=>p.1==q) with|some p=>some p.2|none=>none)=_;by_cases h1:q=b
  ·subst h1;simp
  ·rw[if_neg h1,List.find?_cons_of_neg (by simpa using λe=>h1 e.symm)];have e1:Hs d.sy b k=λp:Nat×Qa=>(p.1,(Hs d.sy b k p).2):=funext (by grind [Hs]);rw[e1,O8 (λp=>(Hs d.sy b k p).2),O9 (q:=λi=>!(i==b)) (by simpa using h1)];cases d.bs.find? (λp=>p.1==q)<;>rfl
 have e:QH G (d.st.cut b k kb g) d'.st:=by
  refine QH.cells rfl rfl (λi=>?_) λq=>?_
  ·have:d'.st.t i=(d.st.cut b k kb g).t i:=by
    show (match (d.ts.map λp=>(p.1,R4 b k 6 p.2)).find? (λp=>p.1==i) with|some p=>p.2|none=>.undef)=R4 b k 6 (match d.ts.find? (λp=>p.1==i) with|some p=>p.2|none=>.undef);rw[O8 (λp=>R4 b k 6 p.2)];cases d.ts.find? (λp=>p.1==i)<;>rfl
   grind [Wk.refl]
  ·rw[hbt];show ((if q=b then some ({ kb with rows:=kb.rows.drop k }:Qa) else (d.st.b q).map λx=>({ x with rows:=x.rows.map (·.map g) }:Qa))=none/\_)\/_;by_cases h1:q=b
   ·right;refine⟨{ kb with rows:=kb.rows.drop k },⟨kb.size,kb.Ql,(l.drop k).map ty.c⟩,by simp[St.cut,h1],by simp[h1],rfl,rfl,?_⟩;rw[hrows,<-List.map_drop];exact W2.same (λc=>EJ.same c) _
   ·rw[if_neg h1];have eb:(d.st.cut b k kb g).b q=(d.st.b q).map λx=>({ x with rows:=x.rows.map (·.map g) }:Qa):=by simp[St.cut,h1]
    rw[D.UA];cases hf:d.bs.find? (λp=>p.1==q) with
    | none=>grind
    | some p=>
     right;have hq:d.st.b q=some p.2:=by rw[D.UA,hf]
     refine⟨{ p.2 with rows:=p.2.rows.map (·.map g) },(Hs d.sy b k p).2,by grind,by simp[h1],?_⟩;unfold Hs;split
     ·rename_i hsy;refine⟨rfl,rfl,?_⟩;have hdat:=hd.sy p.1 (by grind) p.2 (by grind);have:p.2.rows.map (·.map g)=p.2.rows:=by
       refine G1 λr hr=>G1 λc hc=>ID (hdat r hr c hc)
      rw[this];exact W2.same (λc=>EJ.same c) _
     ·exact⟨rfl,rfl,W2.same (λc=>EJ.same c) _⟩
 refine⟨⟨λi=>?_,λ{q p} hq=>?_,λq hq p hp=>?_⟩,gt.trans e,rfl⟩
 ·show okV (ZC d.us) (match (d.ts.map λp=>(p.1,R4 b k 6 p.2)).find? (λp=>p.1==i) with|some p=>p.2|none=>.undef)=true;rw[O8 (λp=>R4 b k 6 p.2)]
  have:=hd.tmp i;grind [D.Qhd,IE]
 ·have hq':d'.st.b q=some p:=hq;rw[hbt] at hq';by_cases h1:q=b
  ·rw[if_pos h1] at hq';simp only[zD] at hq';subst hq';refine⟨by rw[h1];exact(hd.Zp hb).1,(by grind [N9])⟩
  ·rw[if_neg h1] at hq';obtain⟨x,hx,rfl⟩:=zG.1 hq';have hq2:d.st.b q=some x.2:=by rw[D.UA,hx]
   obtain⟨o1,o2⟩:=hd.Zp hq2;refine⟨o1,λr hr c hc=>?_⟩;unfold Hs at hr;split at hr
   ·grind
   ·obtain⟨r0,hr0,rfl⟩:=zM.1 hr;obtain⟨c0,hc0,rfl⟩:=zM.1 hc;grind [IE]
 ·have hp':d'.st.b q=some p:=hp;rw[hbt] at hp';by_cases h1:q=b
  ·rw[if_pos h1] at hp';simp only[zD] at hp';subst hp';exact ty.data _
  ·rw[if_neg h1] at hp';obtain⟨x,hx,rfl⟩:=zG.1 hp';have hq2:d.st.b q=some x.2:=by rw[D.UA,hx]
   have hqs:q∈d.sy:=by
    grind
   have:d.sy.contains x.1=true:=by grind
   unfold Hs;rw[this];exact hd.sy q hqs x.2 hq2
theorem eS{G:zi}{d:D}{w:cQ}{next:D->C}{X:C}(h:PZ w d next=X)(hX:∀j,C.stuck j≠X)(he:ghE w d=w.eqs)(hd:d.Ok):∃d':D,next d'=X/\d'.Ok/\QH G d.st d'.st/\d'.n=d.n:=by
 cases w with
 | Az d t size=>exact TW h hX hd
 | Kb d b j size=>exact PI h hX hd
 | Qb a b=>exact uB h hX hd
 | share v n=>exact Sj h hX he hd
 | drop l=>exact qJ h hX hd
 | tell b es=>exact TE h hX hd
 | len b m ns hn=>exact eU h he hd
theorem IX{u:zl}:∀(n:Nat) (e c:V),okV u (X3 n e c)=true->okV u c=true
 | 0,_,_,h=>h
 | n+1,e,c,h=>by
  have lst:∀(es cs:List V),Md u (Ym (X3 n) es cs)=true->Md u cs=true:=by
   intro es cs;induction cs generalizing es with
   | nil=>intro _;rfl
   | cons c cs ih=>
    intro h;cases es with
    | nil=>exact h
    | cons e es=>
     simp only[Ym,Md,zF] at h ⊢;exact⟨IX n e c h.1,ih es h.2⟩
  cases c<;>simp only[X3] at h<;>try exact h
  case Qh=>rfl
  case sl=>rfl
  case agg cs=>
   grind [okV]
  grind [okV]
theorem RX{u:zl}:∀(es cs:List (List V)),(∀r,r∈HJ es cs->∀c,c∈r->okV u c=true)->∀r,r∈cs->∀c,c∈r->okV u c=true
 | [],cs,h=>by cases cs<;>exact h
 | _ :: _,[],_=>λr hr=>by simp at hr
 | e :: es,c :: cs,h=>λr hr=>by
  simp only[zR] at hr;rcases hr with rfl|hr
  ·have h0:Md u (Ym (X3 8) e r)=true:=(by grind [UF,HJ])
   have:∀(es cs:List V),Md u (Ym (X3 8) es cs)=true->Md u cs=true:=by
    intro es cs;induction cs generalizing es with
    | nil=>intro _;rfl
    | cons c cs ih=>
     intro h;cases es with
     | nil=>exact h
     | cons e es=>
      simp only[Ym,Md,zF] at h ⊢;grind [IX]
   grind [UF]
  ·exact RX es cs (by grind [HJ]) r hr
def Hz(x:Ext)(n:Nat):Exit->St->Prop:=λe s=>e=x.ex/\s.n=n/\KM x s=x.ts/\KE x s=x.bs.map λp=>(p.1,some p.2)
theorem ZE{G:zi}{x:Ext}{s:St}(hok:x.ok=true)(ht:KM x s=x.ts)(hb:KE x s=x.bs.map λp=>(p.1,some p.2)):QH G s (x.D s.n).st:=by
 simp only[Ext.ok,zF,zJ] at hok;have htp:∀p,p∈x.ts->X3 8 p.2 (s.t p.1)=p.2:=λp hp=>by
  have:=List.map_inj_left.1 (show x.ts.map (λp=>(p.1,X3 8 p.2 (s.t p.1)))=x.ts.map (λp=>(p.1,p.2)) from ht.trans (by simp)) p hp;grind
 have hbp:∀p,p∈x.bs->xP x.dt p.1 p.2 (s.b p.1)=some p.2:=λp hp=>by
  have:=List.map_inj_left.1 hb p hp;grind
 have hbs:∀p,p∈x.bs->∃k,s.b p.1=some k/\k.size=p.2.size/\k.Ql=p.2.Ql/\(p.1∈x.dt->k=p.2)/\(¬p.1∈x.dt->HJ p.2.rows k.rows=p.2.rows):=λp hp=>by
  have:=hbp p hp;unfold xP at this;split at this
  ·grind
  ·rename_i hd;obtain⟨k,h1,h2⟩:=zG.1 this;grind
 let kOf:Nat×Qa->Qa:=λp=>match s.b p.1 with|some k=>k|none=>p.2
 have hkOf:∀p,p∈x.bs->s.b p.1=some (kOf p):=(by grind)
 let s0:=D2 s.n (x.ts.map λp=>(p.1,s.t p.1)) (x.bs.map λp=>(p.1,kOf p)) x.us
 have F:N5 s s0:=by
  refine VR rfl ?_ ?_ ?_ ?_ ?_
  ·simp_all
  ·refine zJ.2 λq hq=>?_;obtain⟨p,hp,rfl⟩:=zM.1 hq;refine IX 8 p.2 _ ?_;show okV _ (X3 8 p.2 (s.t p.1))=true;rw[htp p hp];exact hok.1 p hp
  ·grind [List.map_map,List.map_congr_left]
  ·refine zJ.2 λq hq=>?_;obtain⟨p,hp,rfl⟩:=zM.1 hq;show ZC x.us p.1=true;simp only[ZC,Ext.us,zY,wj,zI];grind
  ·intro q hq r hr c hc;obtain⟨p,hp,rfl⟩:=zM.1 hq;obtain⟨k,h1,h2,h3,h4,h5⟩:=hbs p hp;have hk:kOf p=k:=by grind
   simp only[hk] at hr;by_cases hd:p.1∈x.dt
   ·rw[h4 hd] at hr;exact N9 (x.JL p hp hd r hr c hc) _
   ·have:=hok.2 p hp;simp only[Mn,zY,wj,zI,zJ] at this
    have hall:=this.resolve_left hd;exact RX p.2.rows k.rows (by rw[h5 hd];exact hall) r hr c hc
 refine(QH.forget F).trans (QH.cells rfl rfl (λi=>?_) λb=>?_)
 ·show Wk _ _ (s0.t i) ((D2 s.n x.ts x.bs x.us).t i);simp only[s0,Fy];rw[O8 (λp=>s.t p.1)];cases hf:x.ts.find? (λp=>p.1==i) with
  | none=>exact Wk.refl _
  | some p=>
   simp only[wJ];have:=htp p (P4 hf).1;grind [Tx]
 ·show (s0.b b=none/\(D2 s.n x.ts x.bs x.us).b b=none)\/_;simp only[s0,KC];rw[O8 kOf];cases hf:x.bs.find? (λp=>p.1==b) with
  | none=>grind
  | some p=>
   simp only[wJ];obtain⟨k,h1,h2,h3,h4,h5⟩:=hbs p (P4 hf).1;have hk:kOf p=k:=by grind
   rw[hk];refine .inr ⟨k,p.2,rfl,?_,h2.symm,h3.symm,?_⟩
   ·show (D2 s.n x.ts x.bs x.us).b b=_;rw[KC,hf]
   ·by_cases hd:p.1∈x.dt
    ·rw[h4 hd];exact⟨rfl,λi r' h=>⟨r',h,rfl,λj c' hc=>⟨c',hc,Wk.refl _,λ_=>.inl rfl⟩⟩⟩
    ·have:=WQ (bs:=(x.D s.n).st.b) (u:=(x.D s.n).st.u) p.2.rows k.rows;grind
end Go.EV
namespace Go.EV
open Go
section
variable {P:Program} {G:zi}
def Rel(_P:Program)(G:zi)(Q:Exit->St->Prop)(e:Exit)(st:St):Prop:=
 ∀(fx:Fx) (γ:Gh) (a:Act) (w:World),Qc G γ st a.tmps w->a.defers=fx.ds->F0 G fx γ st w Q e a w
theorem Rel.of{Q:Exit->St->Prop}{e:Exit}{st:St}(h:Q e st):Rel P G Q e st:=λ_ γ _ w hs hd=>⟨st,γ,hs,⟨.refl γ w,.refl hs.u⟩,.of hd,h⟩
theorem Rel.mono{Q Q':Exit->St->Prop}{e e':Exit}{st:St}(h:Rel P G Q e st)(hq:∀s,Q e s->Q' e' s):Rel P G Q' e' st:=λfx γ a w hs hd=>by
 obtain⟨st',γ',h1,h2,h3,h4⟩:=h fx γ a w hs hd;exact⟨st',γ',h1,h2,h3,hq _ h4⟩
theorem Rel.forget{Q:Exit->St->Prop}{e:Exit}{st st':St}(f:N5 st st')(h:Rel P G Q e st'):Rel P G Q e st:=λfx γ a w hs hd=>
 (h fx γ a w (f.Nc hs) hd).grow ⟨.refl γ w,f.Uk hs⟩
theorem Rel.ghost{Q:Exit->St->Prop}{e:Exit}{st st':St}(g:QH G st st')(h:Rel P G Q e st'):Rel P G Q e st:=λfx γ a w hs hd=>by
 obtain⟨γ',h1,h2,h3⟩:=g γ a.tmps w hs;exact(h fx γ' a w h1 hd).grow ⟨h2,h3⟩
theorem TV.rel{c:Code}{st:St}{Q Q':Exit->St->Prop}(h:TV P G c st Q')(hq:∀e s,Q' e s->Rel P G Q e s):TV P G c st Q:=λfx γ a w hs hd=>
 wpIn_mono (h fx γ a w hs hd) λe a' w' hl=>by
  obtain⟨st',γ',h1,h2,h3,h4⟩:=hl;exact(hq e st' h4 ⟨fx.ro,a'.defers,fx.mx⟩ γ' a' w' h1 rfl).Ln h2 h3
theorem TV.Qhl{st:St}{Q:Exit->St->Prop}(h:Rel P G Q .normal st):TV P G .skip st Q:=λfx γ a w hs hd=>wpIn_skip (h fx γ a w hs hd.1)
theorem TV.Qyy{l:Nat}{st:St}{Q:Exit->St->Prop}(h:Rel P G Q .normal st):TV P G (.label l) st Q:=λfx γ a w hs hd=>wpIn_label (h fx γ a w hs hd.1)
theorem TV.Qeb{id:Nat}{st:St}{Q:Exit->St->Prop}(h:Rel P G Q (.exit id) st):TV P G (.exit id) st Q:=λfx γ a w hs hd=>wpIn_exit (h fx γ a w hs hd.1)
theorem TV.Qxb{st:St}{Q:Exit->St->Prop}(h:Rel P G Q .ret st):TV P G .ret st Q:=λfx γ a w hs hd=>wpIn_ret (h fx γ a w hs hd.1)
def Po(P:Program)(G:zi)(c:Code)(st:St)(Q:Exit->St->Prop):Prop:=
 ∀(fx:Fx) (γ:Gh) (a:Act) (w:World),Qc G γ st a.tmps w->UK fx γ a.defers w->GO fx.ro P c (F0 G fx γ st w Q) a w
theorem TV.bZ{c:Code}{st:St}{Q:Exit->St->Prop}(h:TV P G c st (DX (λs=>Po P G c s Q) Q)):∀(fx:Fx) (γ:Gh) (a:Act) (w:World),Qc G γ st a.tmps w->UK fx γ a.defers w->CW fx.ro P c (Exit.then (GO fx.ro P c (F0 G fx γ st w Q)) (F0 G fx γ st w Q)) a w:=λfx γ a w hs hd=>
 wpIn_mono (h fx γ a w hs hd) λe a' w' hl=>by
  obtain⟨st',γ',h1,h2,h3,h4⟩:=hl;cases e with
  | normal=>exact qK (h4 ⟨fx.ro,a'.defers,fx.mx⟩ γ' a' w' h1 (hd.step h2.1)) λ_ _ _ hl=>hl.Ln h2 h3
  | _=>exact⟨st',γ',h1,h2,h3,h4⟩
theorem TV.Ie{c:Code}{st:St}{Q:Exit->St->Prop}(h:TV P G c st (DX (λs=>Po P G c s Q) Q)):TV P G (.loop c) st Q:=λfx γ a w hs hd=>Ei (TV.bZ h fx γ a w hs hd)
theorem Po.once{c:Code}{st:St}{Q:Exit->St->Prop}(h:TV P G c st (DX (λs=>Po P G c s Q) Q)):Po P G c st Q:=λfx γ a w hs hd=>Lc (TV.bZ h fx γ a w hs hd)
def noGoto(Q:Exit->St->Prop):Exit->St->Prop
 | .goto _,_=>False
 | e,st=>Q e st
def Qx(P:Program)(G:zi)(Q:Exit->St->Prop):List Kf->Exit->St->Prop
 | []=>Q
 | .seq y :: K=>DX (λst=>TV P G y st (Qx P G Q K)) (Qx P G Q K)
 | .block id :: K=>Yh id (Qx P G Q K)
 | .scope :: K=>noGoto (Qx P G Q K)
 | .lp c :: K=>DX (λst=>Po P G c st (Qx P G Q K)) (Qx P G Q K)
def S6(P:Program){ρ:Type}(F:YH ρ)(r:ρ)(n:Nat):Exit->St->Prop:=
 match F with
 | .fn rs res outs=>λe s=>∃v0,X3 8 (res r) v0=res r/\Ps P rs v0 (Qe (outs r)) e s
 | .FT E=>Hz (E r) n
 | .reg _ _=>λ_ _=>False
 | .Pv S E=>match r with
  | .inl y=>λe s=>I5 e=true/\Hz (S y) n e s
  | .inr z=>λe s=>I5 e=false/\Hz (E z) n e s
 | .rR rs res outs ex Zh=>match r with
  | .inl r=>λe s=>∃v0,X3 8 (res r) v0=res r/\Ps P rs v0 (Qe (outs r)) e s
  | .inr z=>λe s=>e=ex z/\∀b k,Qe (Zh z) b=some k->s.b b=some k
def IT(P:Program)(G:zi)(Q:Exit->St->Prop)(cur:Code⊕Exit)(K:List Kf)(st:St):Prop:=
 match cur with
 | .inl c=>TV P G c st (Qx P G Q K)
 | .inr e=>Rel P G (Qx P G Q K) e st
def Tc(rec:Rec P G):Prop:=
 ∀(ρ:Type) (F:YH ρ) (g:T P G ρ) (cur:Code⊕Exit) (K:List Kf) (d:D) (r:ρ),d.Ok->rec ρ F g cur K d=g.expect F->g.run=some r->IT P G (S6 P F r d.n) cur K d.st
section
variable {kp:List Nat} {rec:Rec P G} (hm:P.follows .mixedOrders=true) (hrec:Tc rec) {ρ:Type} {F:YH ρ} {g:T P G ρ} {K:List Kf} {d:D} {r:ρ}
theorem Wp{e:Exit}{x:Ext}(h:Iv e x d=Ws x.ex x):Hz x d.n e d.st:=by
 simp only[Iv,Ws,C.fin.injEq,true_and,zD] at h;exact⟨h.1,rfl,h.2.1,h.2.2⟩
theorem dG{e:Exit}(h:fin P G F g e d=g.expect F)(hr:g.run=some r):S6 P F r d.n e d.st:=by
 cases g<;>simp only[fin] at h<;>try exact absurd h (Z4 _ _ _)
 case done r'=>
  simp only[T.run,zD] at hr;subst hr;cases F with
  | fn rs res outs=>
   have key:(e=.normal\/e=.ret)->C.fin ((F3 P d.st rs).map (X3 8 (res r'))) none [] ((outs r').map λp=>(p.1,d.st.b p.1))=T.expect (YH.fn rs res outs) (T.done (P:=P) (G:=G) r')->S6 P (YH.fn rs res outs) r' d.n e d.st:=by
    intro he h;simp only[T.expect,C.fin.injEq,true_and] at h;obtain⟨v0,h0,h1⟩:=zG.1 h.1;refine⟨v0,h1,he,h0,λb k hk=>?_⟩;have hmem:=P3 hk;grind [List.map_inj_left]
   grind [T.expect]
  | FT E=>exact Wp (by simpa[T.expect] using h)
  | rR rs res outs ex Zh=>
   cases r' with
   | inl y=>
    have key:(e=.normal\/e=.ret)->C.fin ((F3 P d.st rs).map (X3 8 (res y))) none [] ((outs y).map λp=>(p.1,d.st.b p.1))=C.fin (some (res y)) none [] ((outs y).map λp=>(p.1,some p.2))->∃v0,X3 8 (res y) v0=res y/\Ps P rs v0 (Qe (outs y)) e d.st:=by
     intro he h;simp only[C.fin.injEq,true_and] at h;obtain⟨v0,h0,h1⟩:=zG.1 h.1;refine⟨v0,h1,he,h0,λb k hk=>?_⟩;have hmem:=P3 hk;grind [List.map_inj_left]
    simp only at h;split at h
    ·exact key (.inl rfl) (by simpa[T.expect] using h)
    ·exact key (.inr rfl) (by simpa[T.expect] using h)
    ·simp[T.expect] at h
   | inr z=>
    simp only[T.expect,C.fin.injEq,true_and,zD] at h;refine⟨h.1,λb k hk=>?_⟩;have hmem:=P3 hk;grind [List.map_inj_left]
  | reg ts E=>exact absurd h (Z4 _ _ _)
  | Pv S E=>
   cases r' with
   | inl y=>
    simp only at h;split at h
    ·rename_i hn;exact⟨hn,Wp (by simpa[T.expect] using h)⟩
    grind [Z4,absurd]
   | inr z=>
    simp only at h;split at h
    ·exact absurd h (Z4 _ _ _)
    ·rename_i hn;exact⟨hn,Wp (by simpa[T.expect] using h)⟩
theorem Jt{x:Ext}{n:Nat}(hok:x.ok=true):(x.D n).Ok:=by
 have hok':=hok;simp only[Ext.ok,zF,zJ] at hok';refine D.Ok.mD (λp hp=>hok'.1 p hp) (λp hp=>⟨?_,λr hr c hc=>?_⟩) (λb hb k hk=>?_)
 ·simp only[ZC,Ext.D,Ext.us,zY,wj,zI];exact .inl (zM.2 ⟨p,hp,rfl⟩)
 ·have:=hok'.2 p hp;simp only[Mn,zY,wj,zI,zJ] at this;rcases this with h1|h1
  ·exact N9 (x.JL p hp h1 r hr c hc) _
  ·exact h1 r hr c hc
 ·unfold D.st at hk;rw[KC] at hk;split at hk
  ·rename_i p hp;simp only[zD] at hk;subst hk;obtain⟨h1,h2⟩:=P4 hp;exact x.JL p h1 (by rw[h2];exact hb)
  ·simp at hk
theorem YV{e:Exit}(h:I5 e=false):e≠.normal:=by grind [I5]
theorem JA{e:Exit}(h:I5 e=true):e=.normal:=by grind [I5]
theorem HI{A:St->Prop}{Q:Exit->St->Prop}{e:Exit}(h:e≠.normal)(s:St)(hq:Q e s):DX A Q e s:=by
 cases e<;>first|exact absurd rfl h|exact hq
include hrec in
theorem jW{e:Exit}(hd:d.Ok)(h:sxE rec F g e K d=g.expect F)(hr:g.run=some r):Rel P G (Qx P G (S6 P F r d.n) K) e d.st:=by
 unfold sxE at h;split at h
 ·exact Rel.of (dG h hr)
 ·rename_i y K;split at h
  ·rename_i hn;have:=hrec _ _ _ _ _ _ _ hd h hr;rw[JA hn];exact Rel.of (show TV P G y d.st _ from this)
  ·rename_i hn;have:Rel P G (Qx P G (S6 P F r d.n) K) e d.st:=hrec _ _ _ _ _ _ _ hd h hr;exact this.mono λs hq=>HI (YV hn) s hq
 ·rename_i id K;split at h
  ·rename_i id';split at h
   ·rename_i he;have:Rel P G (Qx P G (S6 P F r d.n) K) .normal d.st:=hrec _ _ _ _ _ _ _ hd h hr;refine this.mono λs hq=>?_;show Yh id _ (.exit id') s;simp_all [if_pos,Yh]
   ·rename_i he;have:Rel P G (Qx P G (S6 P F r d.n) K) (.exit id') d.st:=hrec _ _ _ _ _ _ _ hd h hr;refine this.mono λs hq=>?_;show Yh id _ (.exit id') s;simp_all [if_neg,Yh]
  ·rename_i he;have:Rel P G (Qx P G (S6 P F r d.n) K) e d.st:=hrec _ _ _ _ _ _ _ hd h hr;refine this.mono λs hq=>?_;show Yh id _ e s;cases e<;>first|exact absurd rfl (he _)|exact hq
 ·rename_i K;split at h
  ·exact absurd h (Z4 _ _ _)
  ·rename_i he;have:Rel P G (Qx P G (S6 P F r d.n) K) e d.st:=hrec _ _ _ _ _ _ _ hd h hr;refine this.mono λs hq=>?_;show noGoto _ e s;cases e<;>first|exact absurd rfl (he _)|exact hq
 ·rename_i c K;split at h
  ·rename_i hn;have:=hrec _ _ _ _ _ _ _ hd h hr;rw[JA hn];exact Rel.of (show Po P G c d.st _ from Po.once this)
  ·rename_i hn;have:Rel P G (Qx P G (S6 P F r d.n) K) e d.st:=hrec _ _ _ _ _ _ _ hd h hr;exact this.mono λs hq=>HI (YV hn) s hq
omit hrec hm in
theorem nR{p:Y4}{x:List Loc×List Wr}{y:Wr}{i:Nat}(hx:x∈p)(hy:y∈x.2)(e:y.loc=.t i):i∈p.PX:=by
 refine wK.2 ⟨x,hx,List.mem_filterMap.2 ⟨y,hy,?_⟩⟩;cases y with
 | t j c=>grind [Loc.t.injEq,Wr.loc]
 | b j k=>simp[Wr.loc] at e
theorem nS{p:Y4}{x:List Loc×List Wr}{y:Wr}{i:Nat}(hx:x∈p)(hy:y∈x.2)(e:y.loc=.b i):i∈p.Xk:=by
 refine wK.2 ⟨x,hx,List.mem_filterMap.2 ⟨y,hy,?_⟩⟩;cases y with
 | b j k=>grind [Loc.b.injEq,Wr.loc]
 | t j c=>simp[Wr.loc] at e
theorem Hp{α:Type}(l:List (Nat×α))(f:zl)(i:Nat):(l.filter λx=>f x.1).find? (λp=>p.1==i)=if f i then l.find? (λp=>p.1==i) else none:=by
 grind
theorem AJ{P:Program}{G:zi}{ops:Array Oper}{ip:Nat}{st0:St}:∀{m:Nat} {p:Y4} {s:St} {p':Y4},
  AU P G ops ip (List.range' p.length m) s p=some p'->
  (s=H5 p st0 p.length/\∀j,j < p.length->j≠ip->((Jp ops.toList).getD j 0).testBit ip=false->A7 P G ops j (H5 p st0 j) (p.rs j) (p.ws j))->ip < p.length->
  p'.length=p.length+m/\True/\(∀j,j < p.length+m->j≠ip->((Jp ops.toList).getD j 0).testBit ip=false->A7 P G ops j (H5 p' st0 j) (p'.rs j) (p'.ws j))/\(∀j,j<=p.length->H5 p' st0 j=H5 p st0 j)/\∀j,j < p.length->p'[j]?=p[j]?
 | 0,p,s,p',h,hs,_=>by
  obtain rfl:p=p':=by simpa[AU] using h
  exact⟨rfl,trivial,hs.2,λ_ _=>rfl,λ_ _=>rfl⟩
 | m+1,p,s,p',h,hs,hip=>by
  rw[List.range'_succ] at h;have next:∀{s1:St} {x:List Loc×List Wr},AU P G ops ip (List.range' (p.length+1) m) s1 (p++[x])=some p'->s1=(H5 p st0 p.length).app x.2->(((Jp ops.toList).getD p.length 0).testBit ip=false->A7 P G ops p.length (H5 p st0 p.length) x.1 x.2)->
    p'.length=p.length+(m+1)/\True/\(∀j,j < p.length+(m+1)->j≠ip->((Jp ops.toList).getD j 0).testBit ip=false->A7 P G ops j (H5 p' st0 j) (p'.rs j) (p'.ws j))/\(∀j,j<=p.length->H5 p' st0 j=H5 p st0 j)/\∀j,j < p.length->p'[j]?=p[j]?:=by
   intro s1 x h1 h2 h3;have hl:(p++[x]).length=p.length+1:=by simp
   rw[<-hl] at h1;have:=AJ h1 ⟨by rw[h2];exact(Mr p x st0).symm,λj hj hne hw=>by
    by_cases hj':j < p.length
    ·have e1:(p++[x]).rs j=p.rs j/\(p++[x]).ws j=p.ws j:=by
      unfold Y4.rs Y4.ws;rw[wI,wI,wq hj'];exact⟨rfl,rfl⟩
     grind [X0]
    ·obtain rfl:j=p.length:=by omega
     have e1:(p++[x]).rs p.length=x.1/\(p++[x]).ws p.length=x.2:=by
      unfold Y4.rs Y4.ws;rw[wI,List.getElem?_concat_length];exact⟨rfl,rfl⟩
     rw[X0 _ _ _ _ (zN _),e1.1,e1.2];exact h3 hw⟩ (by omega)
   obtain⟨a1,_,a3,a4,a5⟩:=this;rw[hl] at a1 a3;refine⟨by omega,trivial,λj hj=>a3 j (by omega),(by grind [X0]),(by grind)⟩
  simp only[AU] at h;split at h
  ·rename_i hw;exact next h (by rw[hs.1];rfl) (by grind)
  grind [Ji]
theorem Ex{d:D}{p:Y4}{s:St}(hd:d.Ok)(hn:s.n=d.n)(h:∀l,(∀x,x∈p->∀y,y∈x.2->y.loc≠l)->O4 s d.st l):N5 s (KD d p).st:=by
 have mu:∀b,ZC d.us b=true->(KD d p).st.u b=true:=λb hb=>by
  show ((p.Xk++d.us).contains b || Qk b)=true;simp only[ZC,zY,wj,zI,wk] at hb ⊢;grind
 have mono:∀c,okV (ZC d.us) c=true->okV (KD d p).st.u c=true:=λc hc=>N0 mu c hc;refine⟨hn.symm,λi=>?_,λb=>?_,(by grind [Ja,D.st,D2,Qk])⟩
 ·have e0:(KD d p).st.t i=(match (d.ts.filter λx=>!p.PX.contains x.1).find? (λp=>p.1==i) with|some p=>p.2|none=>V.undef):=rfl;rw[Hp d.ts (λi=>!p.PX.contains i)] at e0;by_cases hc:p.PX.contains i=true
  ·grind
  ·have hc':p.PX.contains i=false:=by simpa using hc
   rw[hc'] at e0;have e:s.t i=d.st.t i:=h (.t i) λx hx y hy e=>(by grind [nR]);refine .inr ⟨by rw[e0,e];rfl,by rw[e];exact mono _ (hd.tmp i)⟩
 ·have e0:(KD d p).st.b b=(match (d.bs.filter λx=>!p.Xk.contains x.1).find? (λp=>p.1==b) with|some p=>some p.2|none=>none):=rfl;rw[Hp d.bs (λi=>!p.Xk.contains i)] at e0;by_cases hc:p.Xk.contains b=true
  ·grind
  ·have hc':p.Xk.contains b=false:=by simpa using hc
   rw[hc'] at e0;have e:s.b b=d.st.b b:=(h (.b b) λx hx y hy e=>(by grind [nS])).1;refine .inr ⟨by rw[e0,e];rfl,λk hk=>?_⟩;rw[e] at hk;obtain⟨h1,h2⟩:=hd.Zp hk;grind
theorem xK{d:D}{p:Y4}(hd:d.Ok):(KD d p).Ok:=by
 have f:=Ex (p:=p) hd (s:=d.st) rfl λl _=>O4.refl _ l;refine D.Ok.WS f λb hb k hk r hr c hc=>?_;rcases f.b b with h|⟨h,_⟩
 ·grind
 ·rw[h] at hk;exact hd.sy b hb k hk r hr c hc
include hrec hm in
theorem OG{id:Nat}{ops:Array Oper}{draw:Bool}(hd:d.Ok)(h:cG kp rec F id ops draw g K d=g.expect F)(hr:g.run=some r):TV P G (.region id ops draw) d.st (Qx P G (S6 P F r d.n) K):=by
 rcases MG h hr hd.sy with⟨g',s,p,sy',x1,x2,x3,x4,x5,x6⟩|⟨v,g',sy',p,R,W,x1,x2,x3,x4,x5,x6⟩
 ·split at x1
  ·rename_i hdr;obtain⟨d',y1,y2,y3,y4⟩:=Wz x1 (λj=>Z4 F g' j) hd x5 x3;have hq:Rel P G (Qx P G (S6 P F r d'.n) K) .normal d'.st:=hrec _ _ _ _ _ _ _ y2 y1 x2;rw[y4] at hq;refine TV.rel (Q':=λe s'=>e=.normal/\s'=s) (TV.Ve hm hdr x5 x6 ⟨rfl,rfl⟩) λe s' he=>?_;obtain⟨rfl,rfl⟩:=he;exact hq.forget y3
  grind [Z4,absurd]
 ·cases draw with
  | false=>
   obtain⟨d',y1,y2,y3,y4⟩:=Wz x1 (λj=>Z4 F g' j) hd (Mr p (R,W) d.st).symm x3;have hq:Rel P G (Qx P G (S6 P F r d'.n) K) (.panic v) d'.st:=hrec _ _ _ _ _ _ _ y2 y1 x2;rw[y4] at hq;refine TV.rel (Q':=λe s''=>e=.panic v/\s''=(H5 p d.st p.length).app W) (TV.Qwq x4 x5 (x6 _ rfl λl _=>O4.refl _ l) ⟨rfl,rfl⟩) λe s'' he=>?_;obtain⟨rfl,rfl⟩:=he;exact hq.forget y3
  | true=>
   simp only at x1;split at x1
   rotate_left
   ·exact absurd x1 (Z4 _ _ _)
   rename_i p' hw;split at x1
   rotate_left
   ·exact absurd x1 (Z4 _ _ _)
   rename_i hc;simp only[zF,Mf] at hc;have hlen:(p++[(R,W)]).length=p.length+1:=by simp
   rw[show (p++[(R,W)]).length - 1=p.length by simp] at hw;obtain⟨r1,r2,r3,r4,r5⟩:=AJ (st0:=d.st) (ip:=p.length) hw ⟨(Mr p (R,W) d.st).symm,λj hj hne _=>by
     have hj':j < p.length:=by omega
     rw[X0 _ _ _ _ (by omega)];have e1:(p++[(R,W)]).rs j=p.rs j/\(p++[(R,W)]).ws j=p.ws j:=by
      unfold Y4.rs Y4.ws;rw[wI,wI,wq hj'];exact⟨rfl,rfl⟩
     rw[e1.1,e1.2];exact x5 j hj'⟩ (by omega)
   have e2:∀i,i<=ops.size->p'.st (λj=>decide (j < i)) d.st ops.size=H5 p' d.st i:=λi hi=>by
    simp_all [UL,min]
   have hx:(R,W)∈p':=by
    grind
   have far:∀(D:zl) (l:Loc),(∀x,x∈p'->∀y,y∈x.2->y.loc≠l)->O4 ((p'.st D d.st ops.size).app W) d.st l:=λD l h=>by
    refine(O5 W _ (h (R,W) hx)).trans ?_;have key:∀n,O4 (p'.st D d.st n) d.st l:=λn=>by
     induction n with
     | zero=>exact O4.refl _ _
     | succ n ih=>
      simp only[Y4.st];split
      ·refine(O5 _ _ λy hy=>?_).trans ih;grind [List.mem_of_getElem?,Y4.ws]
      ·exact ih
    exact key _
   have fg:∀D:Nat->Bool,N5 ((p'.st D d.st ops.size).app W) (KD d p').st:=λD=>Ex hd (by rw[LU,Y4.jI];rfl) λl h=>far D l h
   have hq:Rel P G (Qx P G (S6 P F r (KD d p').n) K) (.panic v) (KD d p').st:=hrec _ _ _ _ _ _ _ (xK hd) x1 x2;refine TV.rel (Q':=λe s''=>e=.panic v/\∃D:Nat->Bool,s''=(p'.st D d.st ops.size).app W) (TV.bE (ip:=p.length) (ex:=.panic v) (W:=W) hm hc.1 hc.2 (λi hi hne hw=>?_) (λh=>by omega) λ_=>⟨?_,λD=>⟨rfl,D,rfl⟩⟩) λe s'' he=>?_
   ·grind
   ·rw[e2 _ (by omega)];simp_all [wI,List.getElem?_concat_length,X0,zN,Y4.rs]
   ·obtain⟨rfl,D,rfl⟩:=he;exact hq.forget (fg D)
theorem ND{ops:Array Oper}{draw:Bool}{ts:List Nat}{ε:Type}{E:ε->List V}{first:T P G ε}{e:ε}{s:St}{p:Y4}(h:SH P G ops draw ts d first s p=first.expect (.reg ts E))(hr:first.run=some e) :
  ts.map s.t=E e/\(!draw || Mf ops p)=true/\(∀b,b∈p.Xk->∀x,x∈d.bs->x.1≠b)/\∀t,t∈p.PX->t∈ops.toList.filterMap (·.dst):=by
 unfold SH at h;split at h
 ·rename_i r';simp only[T.run,zD] at hr;subst hr;split at h
  ·grind [C.Qjl.injEq,T.expect]
  grind [Z4,absurd]
 ·simp[T.run] at hr
 grind [Z4,absurd]
theorem qV{ts:List Nat}{vs:List V}{s:St}(h:ts.map s.t=vs):∀p,p∈ts.zip vs->s.t p.1=p.2:=by
 subst h;intro p hp;induction ts with
 | nil=>simp at hp
 | cons t ts ih=>
  grind [List.zip_cons_cons]
include hrec hm in
theorem jU{id:Nat}{ops:Array Oper}{draw:Bool}(hd:d.Ok)(h:sxR kp rec F id ops draw g K d=g.expect F)(hr:g.run=some r):TV P G (.region id ops draw) d.st (Qx P G (S6 P F r d.n) K):=by
 unfold sxR at h;split at h
 ·rename_i ε id' ts first E k
  split at h
  ·simp only[T.expect,C.bind.injEq,heq_eq_eq,true_and] at h;obtain⟨h1,h2⟩:=h;simp only[T.run] at hr;split at hr
   ·rename_i e he;have h3:=congrFun h2 e;split at h3
    ·rename_i hok;simp only[zF,zJ,beq_iff_eq] at hok;rcases MG h1 he hd.sy with⟨g',s,p,sy',x1,x2,x3,x4,x5,x6⟩|⟨_,_,_,_,_,_,x1,_⟩
     rotate_left
     ·exact absurd x1 (Z4 _ _ _)
     obtain⟨y1,y2,y3,y4⟩:=ND x1 x2;have tmp:∀i,¬i∈ops.toList.filterMap (·.dst)->s.t i=d.st.t i:=(by grind [JN]);have fg:N5 s (BU ops ts d (E e)).st:=by
      refine⟨?_,λi=>?_,λb=>?_,λb hb=>MB (Ja hb)⟩
      ·rw[x5,GW];rfl
      ·have e0:(BU ops ts d (E e)).st.t i=(match (ts.zip (E e)++d.ts.filter λx=>!(ops.toList.filterMap (·.dst)).contains x.1&&!ts.contains x.1).find? (λp=>p.1==i) with|some p=>p.2|none=>.undef):=rfl;rw[e0,List.find?_append];cases hf:(ts.zip (E e)).find? (λp=>p.1==i) with
       | some x=>
        obtain⟨z1,z2⟩:=P4 hf;have z3:=qV y1 x z1;refine .inr ⟨by grind,?_⟩;rw[<-z2,z3];exact hok.1 x.2 (List.of_mem_zip z1).2
       | none=>
        simp only[Option.none_or];cases hw:(!(ops.toList.filterMap (·.dst)).contains i&&!ts.contains i) with
        | false=>grind
        | true=>
         rw[O9 (q:=λj=>!(ops.toList.filterMap (·.dst)).contains j&&!ts.contains j) hw];simp only[zF,wo,wj,decide_eq_false_iff_not] at hw;have e1:=tmp i hw.1;exact .inr ⟨by rw[e1];rfl,by rw[e1];exact hd.tmp i⟩
      ·have e0:(BU ops ts d (E e)).st.b b=d.st.b b:=rfl;rw[e0];by_cases hw:b∈p.Xk
       ·grind [KC,List.find?_eq_none,D.st]
       ·have e1:s.b b=d.st.b b:=by grind [JR]
        refine .inr ⟨by rw[e1],λk hk=>?_⟩;rw[e1] at hk;exact hd.Zp hk
     have ok':(BU ops ts d (E e)).Ok:=D.Ok.WS fg hd.sy
     have hq:Rel P G (Qx P G (S6 P F r d.n) K) .normal (BU ops ts d (E e)).st:=hrec _ _ _ _ _ (BU ops ts d (E e)) _ ok' h3 hr;refine TV.rel (Q':=λe s'=>e=.normal/\s'=s) (TV.Ve hm y2 x5 x6 ⟨rfl,rfl⟩) λe s' he=>?_;obtain⟨rfl,rfl⟩:=he;exact hq.forget fg
    grind [Z4,absurd]
   ·simp at hr
  grind [OG]
 grind [OG]
end
end
structure Y1(w w1:World):Prop where
 size:w.heap.size<=w1.heap.size
 same:∀(B:Nat) (cs:Array Value) (e:TypeId) (fz:Nat×Nat),w.heap[B]?=some (.cells cs e fz)->w1.heap[B]?=some (.cells cs e fz)
 maps:∀(B:Nat) (es:Array MapEntry) (k:Nat),w.heap[B]?=some (.map es k)->w1.heap[B]?=some (.map es k)
theorem Y1.trans{a b c:World}(h:Y1 a b)(k:Y1 b c):Y1 a c:=⟨Nat.le_trans h.size k.size,λB cs e fz hb=>k.same B cs e fz (h.same B cs e fz hb),λB es c hb=>k.maps B es c (h.maps B es c hb)⟩
theorem Y1.row{w w1:World}(h:Y1 w w1){B:Nat}{cs:Array Value}{e:TypeId}(hr:D5 w B cs e):D5 w1 B cs e:=by
 obtain⟨fz,h1,h2⟩:=hr;exact⟨fz,h.same _ _ _ _ h1,h2⟩
theorem Hh{w:World}{B o:Nat}{v:Value}(h:cellAt w B o=some v):∃cs e fz,w.heap[B]?=some (.cells cs e fz):=by
 grind [cellAt,World.cell?]
theorem Y1.cell{w w1:World}(h:Y1 w w1){B o:Nat}{v:Value}(hc:cellAt w B o=some v):cellAt w1 B o=some v:=by
 obtain⟨cs,e,fz,hb⟩:=Hh hc;have:=h.same B cs e fz hb;grind [cellAt,World.cell?]
theorem Y1.room{w w1:World}(h:Y1 w w1){B n:Nat}(hr:JB w B n):JB w1 B n:=by
 obtain⟨cs,e,fz,h1,h2⟩:=hr;exact⟨cs,e,fz,h.same B cs e fz h1,h2⟩
theorem Y1.rep{w w1:World}(h:Y1 w w1){γ:Gh}{bs:zj}{u:zl}{c:V}{v:Value}(hr:Qy γ w bs u c v):Qy γ w1 bs u c v:=by
 induction hr with
 | data h1=>exact .data (h1.mono λB o v h1 h2=>⟨h1,h.cell h2⟩)
 | undef v=>exact .undef v
 | ref b off len B o cap k h1 h2 h3 h4 h5 h6 h7=>exact .ref b off len B o cap k h1 h2 h3 h4 (h.room h5) h6 h7
 | ZB b off B k h1 h6 h2=>exact .ZB b off B k h1 h6 h2
 | ZQ b off k h1 h6 h2=>exact .ZQ b off k h1 h6 h2
 | Qs b off len v h1 h2 h3=>exact .Qs b off len v h1 h2 h3
 | ptr b i off B o k h1 h2 h3=>exact .ptr b i off B o k h1 h2 h3
 | mp b B k h1 h2 h3=>exact .mp b B k h1 h2 h3
 | QI b v h1 h2 h3=>exact .QI b v h1 h2 h3
 | QW b i off v h1 h2 h3=>exact .QW b i off v h1 h2 h3
 | fn f first captured fs cs h1 h2 _ _ ih1 ih2=>exact .fn f first captured fs cs h1 h2 ih1 ih2
 | agg cells vs h1 _ ih=>exact .agg cells vs h1 ih
 | Qt cells vs h1 _ ih=>exact .Qt cells vs h1 ih
theorem Y1.right{w w1:World}(h:Y1 w w1){γ:Gh}{t:M0}{c:V}{v:Value}(hr:D6 γ w t c v):D6 γ w1 t c v:=by
 unfold D6 at hr ⊢;split at hr
 ·rcases hr with hr|⟨h1,cs,e,h2,h3⟩
  ·exact .inl hr
  ·exact .inr ⟨h1,cs,e,h.row h2,h3⟩
 ·trivial
theorem Y1.aJ{w w1:World}(h:Y1 w w1){γ:Gh}{bs:zj}{u:zl}{b:Nat}{k:Qa}(hb:X1 γ w bs u b k):X1 γ w1 bs u b k:=by
 rcases hb with h0|hm|⟨hM,B,o,cs,e,a1,a2,a3,a4,a5,a6,a7,a8⟩
 ·exact .inl h0
 ·obtain⟨hM,B,es,clock,h1,h2,h3,h4,h5,h6,h7⟩:=hm;refine .inr (.inl ⟨hM,B,es,clock,h1,h2,h.maps _ _ _ h3,h4,h5,h6,λi c hc=>?_⟩);obtain⟨v,a1,a2,a3⟩:=h7 i c hc;exact⟨v,a1,h.rep a2,a3⟩
 ·refine .inr (.inr ⟨hM,B,o,cs,e,a1,a2,h.row a3,a4,a5,λi c hc=>?_,a7,a8⟩);obtain⟨x,b1,b2,b3,b4⟩:=a6 i c hc;exact⟨x,b1,h.rep b2,b3,h.right b4⟩
theorem Y1.Nc{w w1:World}(h:Y1 w w1){G:zi}{γ:Gh}{st:St}{tmps:Array Value}(hs:Qc G γ st tmps w):Qc G γ st tmps w1:=
 ⟨hs.n,λi=>h.rep (hs.t i),λb k hk=>h.aJ (hs.b b k hk),hs.u,λg cells hg=>(hs.g g cells hg).mono λ_ _ _ h1 h2=>⟨h1,h.cell h2⟩,λB x hx=>wT (hs.o B x hx) h.size⟩
theorem Qd.same{γ γ':Gh}{w w1 w2:World}(g:Qd γ w γ' w1)(h:Y1 w1 w2)(hl:∀B,B < w.heap.size->w2.heap[B]?=w1.heap[B]?)(h1:w2.os=w1.os)(h2:w2.tape=w1.tape)(h3:w2.output=w1.output):Qd γ w γ' w2 where
 os:=h1.trans g.os
 tape:=h2.trans g.tape
 output:=h3.trans g.output
 size:=Nat.le_trans g.size h.size
 PQ:=λB o v hB hc=>h.cell (g.PQ B o v hB hc)
 Qp:=g.Qp
 free:=λB hB ho=>by
  obtain⟨a1,a2,a3⟩:=g.free B hB ho;grind
 room:=λB cs e fz hc=>by
  obtain⟨cs',fz',a1,a2⟩:=g.room B cs e fz hc;grind
def Gc:Obj->Bool
 | .cells _ _ _=>true
 | .map _ _=>true
 | _=>false
theorem Y1.put{w:World}{l:Nat}{o o':Obj}(h:w.heap[l]?=some o)(hn:Gc o=false):Y1 w (w.putObj l o'):=
 ⟨by simp,λB cs e fz hb=>by
  have hne:B≠l:=λe'=>by subst e';rw[h] at hb;simp only[zD] at hb;rw[hb] at hn;cases hn
  grind [World.putObj_heap_other],λB es c hb=>by
  have hne:B≠l:=λe'=>by subst e';rw[h] at hb;simp only[zD] at hb;rw[hb] at hn;cases hn
  grind [World.putObj_heap_other]⟩
theorem Qd.put{γ γ':Gh}{w w1:World}(g:Qd γ w γ' w1){l:Nat}{o o':Obj}(h:w1.heap[l]?=some o)(hn:Gc o=false)(hl:w.heap.size<=l):Qd γ w γ' (w1.putObj l o'):=
 g.same (.put h hn) (by grind [World.putObj_heap_other]) rfl rfl rfl
theorem G2{P:Program}{fn:Func}{tmps:Array Value}{R:Ending->World->Prop}{rest:List Deferred}{u:FrameMode}(hu:u≠.run)(I:World->Prop)(hI:∀w,I w->LeavesInM (RF none) 0 P fn tmps R rest u w) :
  ∀(Ds:List Nat) (w:World),I w->Ds.Nodup->(∀D,D∈Ds->w.heap[D]?=some (.deferred (some [])))->(∀D w,D∈Ds->I w->w.heap[D]?=some (.deferred (some []))->I (w.putObj D (.deferred none)))->
   LeavesInM (RF none) 0 P fn tmps R (Ds.map Yb++rest) u w
 | [],w,h,_,_,_=>hI w h
 | D :: Ds,w,h,hn,hd,hp=>by
  refine⟨hu,.inl ⟨D,_,rfl,run_takeDeferred (hd D (by simp)),?_⟩⟩;have hn':=List.nodup_cons.1 hn;refine G2 hu I hI Ds _ (by grind) hn'.2 (λE hE=>?_) (by grind);grind [World.putObj_heap_other]
theorem YQ{P:Program}{fn:Func}{tmps:Array Value}{R:Ending->World->Prop}(I:World->Prop)(hI:∀w,I w->∃v,(results fn tmps).run P w=.ok v w/\R (.returned v) w) :
  ∀(Ds:List Nat) (w:World),I w->Ds.Nodup->(∀D,D∈Ds->w.heap[D]?=some (.deferred (some [])))->(∀D w,D∈Ds->I w->w.heap[D]?=some (.deferred (some []))->I (w.putObj D (.deferred none)))->
   LeavesInM (RF none) 0 P fn tmps R (Ds.map Yb) .returning w
 | [],w,h,_,_,_=>hI w h
 | D :: Ds,w,h,hn,hd,hp=>by
  refine⟨by simp,.inl ⟨D,_,rfl,run_takeDeferred (hd D (by simp)),?_⟩⟩;have hn':=List.nodup_cons.1 hn;refine YQ I hI Ds _ (by grind) hn'.2 (λE hE=>?_) (by grind);grind [World.putObj_heap_other]
section
variable {P:Program} {G:zi} {kp:List Nat} {rec:Rec P G} (hm:P.follows .mixedOrders=true) (hrec:Tc rec) {ρ:Type} {F:YH ρ} {g:T P G ρ} {K:List Kf} {d:D} {r:ρ}
theorem TV.Sh{c:Code}{st:St}{Q:Exit->St->Prop}(h:TV P G c st (noGoto Q)):TV P G (.scope c) st Q:=
 (TV.scope h λl s hs=>hs.elim).mono λe s hs=>by
  cases e<;>first|exact hs.elim|exact hs
theorem VJ{σ ε:Type}{S:σ->Ext}{body:σ->T P G (σ⊕ε)}{E:ε->Ext}{x:Code}{n:Nat}(hrec:Tc rec)
  (hb:∀y,(match (S y).ok&&I5 (S y).ex with
     | true=>rec _ (.Pv S E) (body y) (.inl x) [] ((S y).D n)
     | false=>.stuck 69)=(body y).expect (.Pv S E))
  (e0:ε) (m:Nat) (y0:σ) (hit:I0 (λy=>(body y).run) m y0=some e0):TV P G (.loop x) ((S y0).D n).st (Hz (E e0) n):=by
 have okS:∀y,(S y).ok=true/\rec _ (.Pv S E) (body y) (.inl x) [] ((S y).D n)=(body y).expect (.Pv S E):=(by grind [Z4,absurd]);refine TV.loop (λm st=>∃y,st=((S y).D n).st/\I0 (λy=>(body y).run) m y=some e0) (λm st hI=>?_) (n:=m) ⟨y0,rfl,hit⟩;obtain⟨y,rfl,hy⟩:=hI;obtain⟨s1,s3⟩:=okS y;cases m with
 | zero=>simp[I0] at hy
 | succ m=>
  have hy':(match (body y).run with|none=>none|some (.inl z)=>I0 (λy=>(body y).run) m z|some (.inr e)=>some e)=some e0:=hy;cases hrun:(body y).run with
  | none=>grind
  | some z=>
   rw[hrun] at hy';cases z with
   | inl z=>
    simp only at hy';have key:TV P G x ((S y).D n).st (λe s=>I5 e=true/\Hz (S z) n e s):=hrec _ _ _ _ _ _ _ (Jt s1) s3 hrun;obtain⟨z1,_⟩:=okS z;refine TV.rel key λe s hg=>?_;obtain⟨g0,_,g2,g3,g4⟩:=hg;have f:=ZE (G:=G) (s:=s) z1 g3 g4;rw[g2] at f;rw[JA g0];exact Rel.ghost f (Rel.of ⟨m,by omega,z,rfl,hy'⟩)
   | inr e=>
    simp only[zD] at hy';subst hy';have key:TV P G x ((S y).D n).st (λe' s=>I5 e'=false/\Hz (E e) n e' s):=hrec _ _ _ _ _ _ _ (Jt s1) s3 hrun;exact key.mono (by grind [HI,YV])
include hrec in
theorem Uy{ε:Type}{S:Sub P G ε}{e:ε}{k:T P G ρ}{c:Code}(h1:c=S.c)(h2:d.n=S.n)(hx:S.x.ok=true)(h3:KM S.x d.st=S.x.ts)(h4:KE S.x d.st=S.x.bs.map λp=>(p.1,some p.2))(he:S.o=some e)
  (h6:(match (S.E e).ok with
   | true=>rec ρ F k (.inr (S.E e).ex) K ((S.E e).D d.n)
   | false=>.stuck 64)=k.expect F) (hr:k.run=some r):TV P G c d.st (Qx P G (S6 P F r d.n) K):=by
 split at h6
 ·rename_i hok;have key:=S.ok e he;rw[<-h1,<-h2] at key;have hq:Rel P G (Qx P G (S6 P F r d.n) K) (S.E e).ex ((S.E e).D d.n).st:=hrec _ _ _ _ _ ((S.E e).D d.n) _ (Jt hok) h6 hr;refine TV.ghost (ZE (s:=d.st) hx h3 h4) (TV.rel key λe' s hg=>?_);obtain⟨g1,g2⟩:=hg;rw[g1];exact hq.ghost g2
 grind [Z4,absurd]
include hrec in
theorem jH{c:Code}(hd:d.Ok)(h:sxN rec F g c K d=g.expect F)(hr:g.run=some r):TV P G c d.st (Qx P G (S6 P F r d.n) K):=by
 unfold sxN at h;split at h
 ·rename_i o x y;split at h
  ·rename_i a' c' a b;split at h
   ·rename_i c hc;simp only[T.expect,C.br.injEq] at h;obtain⟨rfl,h1,h2⟩:=h;simp only[T.run] at hr;refine TV.cond hc ?_;cases c with
    | true=>exact hrec _ _ _ _ _ _ _ hd h1 (by simpa using hr)
    | false=>exact hrec _ _ _ _ _ _ _ hd h2 (by simpa using hr)
   grind [Z4,absurd]
  ·rename_i k;split at h
   ·rename_i c hc;split at h
    ·refine TV.cond hc ?_;exact hrec _ _ _ _ _ _ _ hd (by simpa[T.expect] using h) (by simpa[T.run] using hr)
    grind [Z4,absurd]
   grind [Z4,absurd]
  ·rename_i k;split at h
   ·rename_i c hc;split at h
    ·refine TV.cond hc ?_;exact hrec _ _ _ _ _ _ _ hd (by simpa[T.expect] using h) (by simpa[T.run] using hr)
    grind [Z4,absurd]
   grind [Z4,absurd]
  grind [Z4,absurd]
 ·exact TV.block (hrec _ _ _ _ _ _ _ hd h hr)
 ·exact TV.Sh (hrec _ _ _ _ _ _ _ hd h hr)
 ·rename_i x;split at h
  ·rename_i σ S body x0;split at h
   ·rename_i E;split at h
    ·simp only[T.expect,C.loop.injEq,heq_eq_eq,true_and] at h;obtain⟨h1,h2,h3⟩:=h;simp only[T.run] at hr;have hb:=λy=>congrFun h3 y;have s1:(S x0).ok=true:=by
      grind [Z4,absurd]
     exact TV.ghost (ZE (s:=d.st) s1 h1 h2) (VJ hrec hb r Ys x0 hr)
    grind [Z4,absurd]
   grind [Z4,absurd]
  ·exact TV.Ie (hrec _ _ _ _ _ _ _ hd h hr)
 ·split at h
  ·rename_i ε S k;split at h
   ·rename_i hx;simp only[T.expect,C.sub.injEq,heq_eq_eq,true_and] at h;obtain⟨h1,h2,h3,h4,h5⟩:=h;simp only[T.run] at hr;split at hr
    ·rename_i e he;exact Uy hrec h1 h2 hx h3 h4 he (congrFun h5 e) hr
    ·simp at hr
   grind [Z4,absurd]
  ·rename_i ε ζ S k k2;split at h
   ·rename_i hx;simp only[T.expect,C.EA.injEq,heq_eq_eq,true_and] at h;obtain⟨h1,h2,h3,h4,h5,h6⟩:=h;simp only[T.run] at hr;split at hr
    ·rename_i e he;exact Uy hrec h1 h2 hx h3 h4 he (congrFun h5 e) hr
    ·rename_i e he;exact Uy hrec h1 h2 hx h3 h4 he (congrFun h6 e) hr
    ·simp at hr
   grind [Z4,absurd]
  grind [Z4,absurd]
 grind [Z4,absurd]
include hrec in
theorem DZ{ε:Type}{E:ε->Ext}{E':Ext}{e:ε}{first:T P G ε}{k:T P G ρ}{c:Code}(hd:d.Ok)(h1:rec _ (.FT E) first (.inl c) [] d=first.expect (.FT E))(he:first.run=some e)(hE:E e=E')
  (h3:(match E'.ok with
   | true=>rec ρ F k (.inr E'.ex) K (E'.D d.n)
   | false=>.stuck 64)=k.expect F) (hr:k.run=some r):TV P G c d.st (Qx P G (S6 P F r d.n) K):=by
 subst hE;split at h3
 ·rename_i hok;have key:TV P G c d.st (S6 P (.FT E) e d.n):=hrec _ _ _ _ _ _ _ hd h1 he;have hq:Rel P G (Qx P G (S6 P F r d.n) K) (E e).ex ((E e).D d.n).st:=hrec _ _ _ _ _ ((E e).D d.n) _ (Jt hok) h3 hr;refine TV.rel key λe' s hg=>?_;obtain⟨g1,g2,g3,g4⟩:=hg;have f:=ZE (G:=G) (s:=s) hok g3 g4;rw[g2] at f;rw[g1];exact hq.ghost f
 grind [Z4,absurd]
include hrec in
theorem jM{c:Code}(hd:d.Ok)(h:sxB rec F g c K d=g.expect F)(hr:g.run=some r):TV P G c d.st (Qx P G (S6 P F r d.n) K):=by
 unfold sxB at h;split at h
 ·rename_i ε first E k
  simp only[T.expect,C.bind.injEq,heq_eq_eq,true_and] at h;obtain⟨h1,h2⟩:=h;simp only[T.run] at hr;split at hr
  ·rename_i e he;exact DZ hrec hd h1 he rfl (congrFun h2 e) hr
  ·simp at hr
 ·rename_i ε ζ first E E2 k k2
  simp only[T.expect,C.QA.injEq,heq_eq_eq,true_and] at h;obtain⟨h1,h2,h3⟩:=h;simp only[T.run] at hr;split at hr
  ·rename_i e he;exact DZ hrec hd h1 he rfl (congrFun h2 e) hr
  ·rename_i e he;exact DZ hrec hd h1 he rfl (congrFun h3 e) hr
  ·simp at hr
 ·rename_i ε ζ j first E E2 k k2
  have hr':(T.QA j first E E2 k k2).run=some r:=by grind [T.run]
  have ex':(T.QA j first E E2 k k2).expect F=(T.QA (j+1) first E E2 k k2).expect F:=by simp only[T.expect]
  rw[<-ex'] at h;split at h
  ·exact TV.block (hrec _ _ _ _ _ _ _ hd h hr')
  ·exact TV.Sh (hrec _ _ _ _ _ _ _ hd h hr')
  ·exact TV.Ie (hrec _ _ _ _ _ _ _ hd h hr')
  grind [Z4,absurd]
 ·rename_i ε j first E k
  have hr':(T.bind j first E k).run=some r:=by grind [T.run]
  have ex':(T.bind j first E k).expect F=(T.bind (j+1) first E k).expect F:=by simp only[T.expect]
  rw[<-ex'] at h;split at h
  ·exact TV.block (hrec _ _ _ _ _ _ _ hd h hr')
  ·exact TV.Sh (hrec _ _ _ _ _ _ _ hd h hr')
  ·exact TV.Ie (hrec _ _ _ _ _ _ _ hd h hr')
  grind [Z4,absurd]
 grind [jH]
include hrec in
theorem Ae{c:Code}(_:d.Ok)(h:Cm rec F g c K d=g.expect F)(hr:g.run=some r):TV P G c d.st (Qx P G (S6 P F r d.n) K):=by
 unfold Cm at h;split at h
 ·rename_i ε S k;split at h
  ·rename_i hx;simp only[T.expect,C.sub.injEq,heq_eq_eq,true_and] at h;obtain⟨h1,h2,h3,h4,h5⟩:=h;simp only[T.run] at hr;split at hr
   ·rename_i e he;exact Uy hrec h1 h2 hx h3 h4 he (congrFun h5 e) hr
   ·simp at hr
  grind [Z4,absurd]
 ·rename_i ε ζ S k k2;split at h
  ·rename_i hx;simp only[T.expect,C.EA.injEq,heq_eq_eq,true_and] at h;obtain⟨h1,h2,h3,h4,h5,h6⟩:=h;simp only[T.run] at hr;split at hr
   ·rename_i e he;exact Uy hrec h1 h2 hx h3 h4 he (congrFun h5 e) hr
   ·rename_i e he;exact Uy hrec h1 h2 hx h3 h4 he (congrFun h6 e) hr
   ·simp at hr
  grind [Z4,absurd]
 grind [Z4,absurd]
include hrec hm in
theorem jK{c:Code}(hd:d.Ok)(h:sxC kp rec F g c K d=g.expect F)(hr:g.run=some r):TV P G c d.st (Qx P G (S6 P F r d.n) K):=by
 unfold sxC at h;split at h
 ·exact TV.Qhl (hrec _ _ _ _ _ _ _ hd h hr)
 ·exact TV.Qyy (hrec _ _ _ _ _ _ _ hd h hr)
 ·exact TV.Qeb (hrec _ _ _ _ _ _ _ hd h hr)
 ·exact TV.Qxb (hrec _ _ _ _ _ _ _ hd h hr)
 ·split at h
  ·grind [Ae]
  ·exact TV.seq (hrec _ _ _ _ _ _ _ hd h hr)
 ·grind [jU]
 grind [jM]
theorem IT.ghost{Q:Exit->St->Prop}{cur:Code⊕Exit}{st st':St}(g:QH G st st')(h:IT P G Q cur K st'):IT P G Q cur K st:=by
 cases cur with
 | inl c=>exact TV.ghost g h
 | inr e=>exact Rel.ghost (P:=P) g h
include hrec hm in
theorem HF{cur:Code⊕Exit}(hd:d.Ok)(h:cN kp rec F g cur K d=g.expect F)(hr:g.run=some r):IT P G (S6 P F r d.n) cur K d.st:=by
 unfold cN at h;split at h
 ·exact jW hrec hd h hr
 ·exact jK hm hrec hd h hr
include hrec hm in
theorem jJ{cur:Code⊕Exit}(hd:d.Ok)(h:sxS kp rec F g cur K d=g.expect F)(hr:g.run=some r):IT P G (S6 P F r d.n) cur K d.st:=by
 unfold sxS at h;split at h
 ·simp[T.run] at hr
 ·rename_i p i k;simp only[T.expect,C.fact.injEq,heq_eq_eq,true_and] at h;cases i with
  | isTrue hp=>exact hrec _ _ _ _ _ _ _ hd (congrFun h hp) hr
  | isFalse hp=>simp[T.run] at hr
 ·rename_i a c x y;split at h
  ·simp only[T.expect,C.br.injEq] at h;obtain⟨_,h1,h2⟩:=h;simp only[T.run] at hr;cases c with
   | true=>exact hrec _ _ _ _ _ _ _ hd h1 (by simpa using hr)
   | false=>exact hrec _ _ _ _ _ _ _ hd h2 (by simpa using hr)
  ·split at h
   ·split at h
    ·simp only[T.expect,C.br.injEq] at h;obtain⟨_,h1,h2⟩:=h;simp only[T.run] at hr;cases c with
     | true=>exact Ae hrec hd h1 (by simpa using hr)
     | false=>exact hrec _ _ _ _ _ _ _ hd h2 (by simpa using hr)
    grind [HF]
   grind [HF]
 ·rename_i a w k;split at h
  ·simp only[T.expect,C.gh.injEq] at h;obtain⟨h1,h2⟩:=h;obtain⟨d',x1,x2,x3,x4⟩:=eS (G:=G) h2 (λj=>Z4 F k j) h1 hd;have:=hrec _ _ _ _ _ _ _ x2 x1 (by simpa[T.run] using hr);rw[x4] at this;exact this.ghost x3
  grind [HF]
 ·rename_i a b ty l n hs k;split at h
  ·split at h
   ·rename_i kb hb hlow;simp only[zF,zI] at hlow;simp only[T.expect,C.Wl.injEq] at h;obtain⟨h1,_,h3⟩:=h;simp only[T.run] at hr;cases hc:decide (n<=l.length) with
    | false=>grind
    | true=>
     rw[hc] at hr;obtain⟨d',x1,x2,x3,x4⟩:=qM (G:=G) h3 hd hb hlow.1 (Np hlow.2 hb) hs h1 (by simpa using hc);have:=hrec _ _ _ _ _ _ _ x2 x1 (by simpa using hr);rw[x4] at this;exact this.ghost x3
   grind [Z4,absurd]
  grind [HF]
 grind [HF]
end
theorem Nl{P:Program}{G:zi}{kp:List Nat}(hm:P.follows .mixedOrders=true):∀n,Tc (sx P G kp n)
 | 0=>λ_ F g _ _ _ _ _ h _=>absurd h (Z4 F g 99)
 | n+1=>λ_ _ _ _ _ _ _ hd h hr=>jJ hm (Nl hm n) hd h hr
def U5(args:List V):List (Nat×V):=args.zipIdx.map λx=>(x.2,x.1)
def fnC(P:Program)(G:zi)(kp:List Nat)(fn:Func)(args:List V)(x:Ext){ρ:Type}(g:T P G ρ)(res:ρ->V)(outs:ρ->List (Nat×Qa)):Bool×C:=
 (fn.body.isSome&&(x.ok&&x.bs.all λp=>decide (1000000<=p.1)),sx P G kp 100000 ρ (.fn fn.results.toList res outs) g (.inl (fn.body.getD .skip)) [] (x.D (max fn.ntmps args.length)))
theorem Hm:∀(args:List V) (k i:Nat),(match ((args.zipIdx k).map λx=>(x.2,x.1)).find? (λp=>p.1==i+k) with|some p=>p.2|none=>V.undef)=args.getD i .undef
 | [],k,i=>rfl
 | v :: args,k,i=>by
  simp only[List.zipIdx_cons,wu];cases i with
  | zero=>simp
  | succ i=>
   rw[List.find?_cons_of_neg (by simp)];have:=Hm args (k+1) i;grind
theorem Mg{P:Program}{G:zi}{f:FuncId}{fn:Func}{c:Code}{n:Nat}{args:List V}{ins:zj}{res:V}{outs:zj}
  (hf:P.funcs[f]?=some fn) (hb:fn.body=some c) (hn:n=max fn.ntmps args.length)
  (h:∀(γ:Gh) (a:Act) (w:World),Qc G γ (U3 n args ins) a.tmps w->a.defers=[]->CW none P c (λe a' w'=>∃v0,X3 8 res v0=res/\F0 G ⟨none,[],true⟩ γ (U3 n args ins) w (Ps P fn.results.toList v0 outs) e a' w') a w):QS P G f args ins res outs:=by
 intro γ w as hg ho ha hbl;have hsz:as.size=args.length:=ha.1;have hs:Qc G γ (U3 n args ins) (as++Array.replicate (fn.ntmps - as.size) undef) w:=by
  refine⟨by grind [Array.size_append,Array.size_replicate,U3],λi=>?_,λb k hk=>(hbl b k hk).2,λb k hk=>(hbl b k hk).1,hg,ho⟩;show Qy γ w ins Qk (args.getD i .undef) _;by_cases hi:i < args.length
  ·have e1:args.getD i .undef=args[i]:=by grind
   have e2:(as++Array.replicate (fn.ntmps - as.size) undef).getD i undef=as[i]'(by omega):=by
    simp_all [wD,Array.getElem?_append_left,wm]
   rw[e1,e2];exact ha.2 i _ _ (by grind) (by grind)
  ·have e1:args.getD i .undef=.undef:=by grind
   rw[e1];exact .undef _
 refine(callsIn_wide (n:=0)).1 (callsIn_of_wp_marks hf hb trivial (wpIn_mono (h γ ⟨as++Array.replicate (fn.ntmps - as.size) undef,[]⟩ w hs rfl) λe a' w' hl=>?_));obtain⟨v0,hv0,st',γ',h1,⟨h2,h2p⟩,⟨Ds,_,m1,m2,m3⟩,he,hr,hout⟩:=hl;have ble:G6 γ' st'.b st'.u γ' outs (λ_=>true):=by
  refine⟨λ_ _=>rfl,λb _ hn=>?_,λb k hk=>⟨rfl,?_⟩⟩
  ·cases ho:outs b with
   | none=>rfl
   | some k=>grind
  ·cases ho:outs b with
   | none=>exact .inl rfl
   | some k'=>
    grind
 have fin:LeavesInM (RF none) 0 P fn a'.tmps (λe w'=>∃v γ',e=.returned v/\Qd γ w γ' w'/\Zf γ ins Qk γ' outs (λ_=>true)/\Qy γ' w' outs (λ_=>true) res v/\
   (∀b k,outs b=some k->X1 γ' w' outs (λ_=>true) b k)/\(∀B x,γ'.own B=some x->B < w'.heap.size)) a'.defers .returning w':=by
  rw[m1,wL];refine YQ (λw''=>Qc G γ' st' a'.tmps w''/\Qd γ w γ' w'') (λw'' hI=>?_) Ds w' ⟨h1,h2⟩ m2 (λD hD=>(m3 D hD).2.1) λD w'' hD hI hd=>
   ⟨(Y1.put hd rfl).Nc hI.1,hI.2.put hd rfl (m3 D hD).1⟩
  obtain⟨i1,i2⟩:=hI;obtain⟨v,hv,hrep⟩:=C3 (P:=P) i1 hr;refine⟨v,hv,v,γ',rfl,i2,h2p.trans ble.Uk,(by have:=Wv 8 res v0 v (hrep.mono (.refl _ _) ble);grind),λb k hk=>?_,i1.o⟩;rcases i1.b b k (hout b k hk) with h0|hm|⟨hM,B,o,cs,e,a1,a2,a3,a4,a5,a6,a7,a8⟩
  ·exact .inl h0
  ·exact .inr (.inl (hm.same rfl (by grind) λc v hr=>hr.mono (.refl _ _) ble))
  refine .inr (.inr ⟨hM,B,o,cs,e,a1,a2,a3,a4,a5,λi c hc=>?_,a7,a8⟩);obtain⟨x,b1,b2,b3,b4⟩:=a6 i c hc;exact⟨x,b1,b2.mono (.refl _ _) ble,b3,b4⟩
 rcases he with rfl|rfl
 ·exact fin
 ·exact fin
theorem BK{P:Program}{G:zi}{f:FuncId}{fn:Func}{c:Code}{n:Nat}{args:List V}{ins:zj}{v:List PanicEntry}{outs:zj}
  (hf:P.funcs[f]?=some fn) (hb:fn.body=some c) (hn:n=max fn.ntmps args.length)
  (h:∀(γ:Gh) (a:Act) (w:World),Qc G γ (U3 n args ins) a.tmps w->a.defers=[]->CW none P c (F0 G ⟨none,[],true⟩ γ (U3 n args ins) w λe s=>e=.panic v/\∀b k,outs b=some k->s.b b=some k) a w) :
  EU P G f args ins v outs:=by
 intro γ w as hg ho ha hbl;have hsz:as.size=args.length:=ha.1;have hs:Qc G γ (U3 n args ins) (as++Array.replicate (fn.ntmps - as.size) undef) w:=by
  refine⟨by grind [Array.size_append,Array.size_replicate,U3],λi=>?_,λb k hk=>(hbl b k hk).2,λb k hk=>(hbl b k hk).1,hg,ho⟩;show Qy γ w ins Qk (args.getD i .undef) _;by_cases hi:i < args.length
  ·have e1:args.getD i .undef=args[i]:=by grind
   have e2:(as++Array.replicate (fn.ntmps - as.size) undef).getD i undef=as[i]'(by omega):=by
    simp_all [wD,Array.getElem?_append_left,wm]
   rw[e1,e2];exact ha.2 i _ _ (by grind) (by grind)
  ·have e1:args.getD i .undef=.undef:=by grind
   rw[e1];exact .undef _
 refine(callsIn_wide (n:=0)).1 (callsIn_of_wp_marks hf hb trivial (wpIn_mono (h γ ⟨as++Array.replicate (fn.ntmps - as.size) undef,[]⟩ w hs rfl) λe a' w' hl=>?_));obtain⟨st',γ',h1,⟨h2,h2p⟩,⟨Ds,_,m1,m2,m3⟩,rfl,hout⟩:=hl;have ble:G6 γ' st'.b st'.u γ' outs (λ_=>true):=by
  refine⟨λ_ _=>rfl,λb _ hn=>?_,λb k hk=>⟨rfl,?_⟩⟩
  ·cases ho:outs b with
   | none=>rfl
   | some k=>grind
  ·cases ho:outs b with
   | none=>exact .inl rfl
   | some k'=>
    grind
 show LeavesInM (RF none) 0 P fn a'.tmps _ a'.defers (.panicking v) w';rw[m1];refine G2 (u:=.panicking v) (by simp) (λw''=>Qc G γ' st' a'.tmps w''/\Qd γ w γ' w'') (λw'' hI=>?_) Ds w' ⟨h1,h2⟩ m2 (λD hD=>(m3 D hD).2.1) λD w'' hD hI hd=>
  ⟨(Y1.put hd rfl).Nc hI.1,hI.2.put hd rfl (m3 D hD).1⟩
 obtain⟨i1,i2⟩:=hI;refine⟨undef,γ',rfl,i2,h2p.trans ble.Uk,.undef _,λb k hk=>?_,i1.o⟩;rcases i1.b b k (hout b k hk) with h0|hm|⟨hM,B,o,cs,e,a1,a2,a3,a4,a5,a6,a7,a8⟩
 ·exact .inl h0
 ·exact .inr (.inl (hm.same rfl (by grind) λc v hr=>hr.mono (.refl _ _) ble))
 refine .inr (.inr ⟨hM,B,o,cs,e,a1,a2,a3,a4,a5,λi c hc=>?_,a7,a8⟩);obtain⟨x,b1,b2,b3,b4⟩:=a6 i c hc;exact⟨x,b1,b2.mono (.refl _ _) ble,b3,b4⟩
theorem xJ{n:Nat}{args:List V}{x:Ext}(hx:x.ts=U5 args)(h3:∀p,p∈x.bs->1000000<=p.1):(x.D n).st=U3 n args (Qe x.bs):=by
 unfold D.st Ext.D D2 U3;simp only[St.mk.injEq,true_and];refine⟨funext λi=>?_,rfl,funext λi=>?_⟩
 ·rw[hx];have:=Hm args 0 i;exact this
 ·cases hu:Qk i with
  | true=>simp
  | false=>
   simp only[Bool.or_false];refine Bool.eq_false_iff.2 λhc=>?_;simp only[Ext.us,wj,zI] at hc;obtain⟨p,hp,rfl⟩:=zM.1 hc;grind [Qk]
def Qjo(P:Program)(G:zi)(kp:List Nat)(fn:Func)(args:List V)(x:Ext){α β:Type}(g:T P G (α⊕β))(res:α->V)(outs:α->List (Nat×Qa))(Hn:β->List PanicEntry)(Zh:β->List (Nat×Qa)):Bool×C:=
 (fn.body.isSome&&(x.ok&&x.bs.all λp=>decide (1000000<=p.1)),sx P G kp 100000 (α⊕β) (.rR fn.results.toList res outs (λz=>.panic (Hn z)) Zh) g (.inl (fn.body.getD .skip)) [] (x.D (max fn.ntmps args.length)))
theorem dI{P:Program}{G:zi}{kp:List Nat}(hm:P.follows .mixedOrders=true){f:FuncId}{fn:Func}(hf:P.funcs[f]?=some fn){args:List V}{x:Ext}(hx:x.ts=U5 args){α β:Type}{g:T P G (α⊕β)}
  {res:α->V} {outs:α->List (Nat×Qa)} {Hn:β->List PanicEntry} {Zh:β->List (Nat×Qa)} (h:Qjo P G kp fn args x g res outs Hn Zh=(true,g.expect (.rR fn.results.toList res outs (λz=>.panic (Hn z)) Zh))) :
  (∀r,g.run=some (.inl r)->QS P G f args (Qe x.bs) (res r) (Qe (outs r)))/\∀z,g.run=some (.inr z)->EU P G f args (Qe x.bs) (Hn z) (Qe (Zh z)):=by
 simp only[Qjo,zO,zF,zJ,zI] at h;obtain⟨⟨h1,h2,h3⟩,h4⟩:=h;obtain⟨c,hc⟩:=Option.isSome_iff_exists.1 h1;rw[hc] at h4;have e:=xJ (n:=max fn.ntmps args.length) hx h3;have key:∀q,g.run=some q->TV P G c (U3 (max fn.ntmps args.length) args (Qe x.bs)) (S6 P (.rR fn.results.toList res outs (λz=>.panic (Hn z)) Zh) q (max fn.ntmps args.length)):=λq hr=>by
  have:=Nl hm 100000 _ _ _ _ _ _ _ (Jt h2) h4 hr;rw[<-e];exact this
 constructor
 ·intro r hr;refine Mg hf hc rfl λγ a w hs hd=>wpIn_mono (key _ hr ⟨none,[],true⟩ γ a w hs ⟨hd,rfl,λ_ h=>by simp at h⟩) λe a' w' hl=>?_;obtain⟨st',γ',k1,k2,k3,v0,k4,k5⟩:=hl;exact⟨v0,k4,st',γ',k1,k2,k3,k5⟩
 ·intro z hr;exact BK hf hc rfl λγ a w hs hd=>key _ hr ⟨none,[],true⟩ γ a w hs ⟨hd,rfl,λ_ h=>by simp at h⟩
theorem bH{P:Program}{G:zi}{kp:List Nat}(hm:P.follows .mixedOrders=true){f:FuncId}{fn:Func}(hf:P.funcs[f]?=some fn){args:List V}{x:Ext}(hx:x.ts=U5 args){ρ:Type}{g:T P G ρ}
  {res:ρ->V} {outs:ρ->List (Nat×Qa)} (h:fnC P G kp fn args x g res outs=(true,g.expect (.fn fn.results.toList res outs))):∀r,g.run=some r->QS P G f args (Qe x.bs) (res r) (Qe (outs r)):=by
 intro r hr;simp only[fnC,zO,zF,zJ,zI] at h;obtain⟨⟨h1,h2,h3⟩,h4⟩:=h;obtain⟨c,hc⟩:=Option.isSome_iff_exists.1 h1;rw[hc] at h4;have key:TV P G c (x.D (max fn.ntmps args.length)).st (S6 P (.fn fn.results.toList res outs) r _):=Nl hm 100000 _ _ _ _ _ _ _ (Jt h2) h4 hr;have e:(x.D (max fn.ntmps args.length)).st=U3 (max fn.ntmps args.length) args (Qe x.bs):=by
  unfold D.st Ext.D D2 U3;simp only[St.mk.injEq,true_and];refine⟨funext λi=>?_,rfl,funext λi=>?_⟩
  ·rw[hx];have:=Hm args 0 i;exact this
  ·cases hu:Qk i with
   | true=>simp
   | false=>
    simp only[Bool.or_false];refine Bool.eq_false_iff.2 λhc=>?_;simp only[Ext.us,wj,zI] at hc;obtain⟨p,hp,rfl⟩:=zM.1 hc;grind [Qk]
 rw[e] at key;intro γ w as hg ho ha hbl;have key2:∀(γ:Gh) (a:Act) (w:World),Qc G γ (U3 (max fn.ntmps args.length) args (Qe x.bs)) a.tmps w->a.defers=[]->
   CW none P c (λe a' w'=>∃v0,X3 8 (res r) v0=res r/\F0 G ⟨none,[],true⟩ γ (U3 (max fn.ntmps args.length) args (Qe x.bs)) w (Ps P fn.results.toList v0 (Qe (outs r))) e a' w') a w:=λγ a w hs hd=>
  wpIn_mono (key ⟨none,[],true⟩ γ a w hs ⟨hd,rfl,λ_ h=>by simp at h⟩) λe a' w' hl=>by
   obtain⟨st',γ',k1,k2,k3,v0,k4,k5⟩:=hl;exact⟨v0,k4,st',γ',k1,k2,k3,k5⟩
 exact Mg hf hc rfl key2 γ w as hg ho ha hbl
def oW(P:Program)(G:zi)(kp:List Nat)(fn:Func)(args:List V){ρ:Type}(g:T P G ρ)(res:ρ->V):Prop:=
 fnC P G kp fn args (Ext.l .normal (U5 args) []) g res (λ_=>[])=(true,g.expect (.fn fn.results.toList res λ_=>[]))
def Spec.ofFn{P:Program}{G:zi}{kp:List Nat}(f:FuncId){fn:Func}{args:List V}{ρ:Type}{g:T P G ρ}{res:ρ->V}(hm:P.follows .mixedOrders=true)(hf:P.funcs[f]?=some fn)(k:oW P G kp fn args g res):Spec P G ρ:=
 ⟨f,args,[],g.run,res,λ_=>[],[],λ_ _ h=>by simp at h,bH hm hf rfl k⟩
def Jx(P:Program)(G:zi)(kp:List Nat)(fn:Func)(args:List V)(x:Ext){ρ:Type}(g:T P G ρ)(res:ρ->V)(O:ρ->Ext):Prop:=
 fnC P G kp fn args x g res (λr=>(O r).bs)=(true,g.expect (.fn fn.results.toList res λr=>(O r).bs))
def Spec.Ze{P:Program}{G:zi}{kp:List Nat}(f:FuncId){fn:Func}{args:List V}{x:Ext}{ρ:Type}{g:T P G ρ}{res:ρ->V}{O:ρ->Ext}(dt:List Nat)(hm:P.follows .mixedOrders=true)(hf:P.funcs[f]?=some fn)(hx:x.ts=U5 args)
  (hdt:∀r,((O r).bs.all λp=>!dt.contains p.1 || (O r).dt.contains p.1)=true) (k:Jx P G kp fn args x g res O):Spec P G ρ:=
 ⟨f,args,x.bs,g.run,res,λr=>(O r).bs,dt,λr p hp hd=>(O r).JL p hp (by
  grind),bH hm hf hx k⟩
def Hi(P:Program)(G:zi)(kp:List Nat)(fn:Func)(args:List V)(x:Ext){α β:Type}(g:T P G (α⊕β))(res:α->V)(O:α->Ext)(Hn:β->List PanicEntry)(OP:β->Ext):Prop:=
 Qjo P G kp fn args x g res (λr=>(O r).bs) Hn (λr=>(OP r).bs)=(true,g.expect (.rR fn.results.toList res (λr=>(O r).bs) (λz=>.panic (Hn z)) λr=>(OP r).bs))
def L5.ofFn{P:Program}{G:zi}{kp:List Nat}(f:FuncId){fn:Func}{args:List V}{x:Ext}{α β:Type}{g:T P G (α⊕β)}{res:α->V}{O:α->Ext}{Hn:β->List PanicEntry}{OP:β->Ext}(dt:List Nat)(hm:P.follows .mixedOrders=true)(hf:P.funcs[f]?=some fn)(hx:x.ts=U5 args)
  (hdt:∀r,((O r).bs.all λp=>!dt.contains p.1 || (O r).dt.contains p.1)=true) (hdp:∀r,((OP r).bs.all λp=>!dt.contains p.1 || (OP r).dt.contains p.1)=true) (k:Hi P G kp fn args x g res O Hn OP):L5 P G α β:=
 ⟨f,args,x.bs,g.run,res,λr=>(O r).bs,Hn,λr=>(OP r).bs,dt,λr p hp hd=>(O r).JL p hp (by
  grind),λr p hp hd=>(OP r).JL p hp (by
  grind),(dI hm hf hx k).1,(dI hm hf hx k).2⟩
def Q0(n:Int):Int:=IntKind.i64.wrap n
def Z1(n:Int):Int:=IntKind.u64.wrap n
def O1(n:Int):Int:=IntKind.u32.wrap n
def Qm(n:Int):Int:=IntKind.u8.wrap n
def bs(l:List UInt8):ze:=⟨⟨l⟩⟩
def QZ(s:ze)(i:Int):Int:=(s.data.getD i.toNat 0).toNat
def U0(k:IntKind)(a b:Int):Int:=k.wrap (BitVec.ofInt k.bits a &&& BitVec.ofInt k.bits b).toNat
def Zl(k:IntKind)(a b:Int):Int:=k.wrap (BitVec.ofInt k.bits a ||| BitVec.ofInt k.bits b).toNat
def T5(k:IntKind)(a b:Int):Int:=k.wrap (BitVec.ofInt k.bits a ^^^ BitVec.ofInt k.bits b).toNat
def M6(k:IntKind)(a b:Int):Int:=k.wrap (a * 2 ^ (min b.toNat k.bits))
def Z3(k:IntKind)(a b:Int):Int:=a.fdiv (2 ^ (min b.toNat k.bits))
def mG{α:Type}(t:Ty α)(l:List α):Nat:=(l.map t.c).length
def E6{α:Type}(t:Ty α)(l:List α):Int:=(mG t l:Nat)
theorem Jn{α:Type}(t:Ty α)(l:List α):E6 t l=(l.length:Int):=by simp[E6,mG]
def Jd.put{α:Type}(i z:Nat)(t:Ty α)(l:List α)(j:Nat)(y:α):Jd:=
 ⟨[.b i (some ⟨z,true,(l.map t.c).set j (t.c y)⟩)],[.b i (some ⟨z,true,(l.set j y).map t.c⟩)],by rw[List.map_set],[i],λb k h _=>by
  simp only[wH,Wr.b.injEq,zD] at h;obtain⟨_,rfl⟩:=h;exact t.data _⟩
theorem Qy.oM{γ:Gh}{w:World}{bs:zj}{u:zl}{l:Nat}{v:Value}(h:Qy γ w bs u (.QB l) v):v=.func (.yield l) #[] #[]:=by
 cases h with
 | data h=>cases h;rfl
theorem Qy.Uk{γ γ':Gh}{w w':World}{bs bs':zj}{u u':zl}(g:Qd γ w γ' w')(hp:Zf γ bs u γ' bs' u'){c:V}{v:Value}(h:Qy γ w bs u c v):okV X8 c=true->Qy γ' w' bs' u' c v:=by
 have top:∀{b},X8 b=true->X8 b=true:=λh=>h;induction h with
 | data h=>exact λ_=>.data (g.data h)
 | undef v=>exact λ_=>.undef v
 | ref b off len B o cap k h1 h2 h3 h4 h5 h6 h7=>
  intro ho;simp only[okV] at ho;obtain⟨_,_,hk⟩:=hp b (top ho);obtain⟨hu,hk⟩:=hk k h1;rcases hk with hk|⟨k',hk,hs,hr,hl⟩
  ·exact .Qs b off len _ hk hu rfl
  ·rw[<-hs];exact .ref b off len B o cap k' hk (hl.trans h2) (by grind) h4 (g.uN (by grind)) (by grind) (by grind)
 | ZB b off B k h1 h6 h2=>
  intro ho;simp only[okV] at ho;obtain⟨_,_,hk⟩:=hp b (top ho);obtain⟨hu,hk⟩:=hk k h1;rcases hk with hk|⟨k',hk,hs,hr,hl⟩
  ·exact .Qs b off 0 _ hk hu rfl
  ·exact .ZB b off B k' hk (by grind) ((hr h6).trans h2)
 | ZQ b off k h1 h6 h2=>
  intro ho;simp only[okV] at ho;obtain⟨_,_,hk⟩:=hp b (top ho);obtain⟨hu,hk⟩:=hk k h1;rcases hk with hk|⟨k',hk,hs,hr,hl⟩
  ·exact .Qs b off 0 _ hk hu rfl
  ·exact .ZQ b off k' hk (by grind) ((hr h6).trans h2)
 | Qs b off len v h1 h2 h3=>
  intro ho;simp only[okV] at ho;obtain⟨hu,hg,_⟩:=hp b (top ho);exact .Qs b off len v (hg h2 h1) (hu h2) h3
 | ptr b i off B o k h1 h2 h3=>
  intro ho;simp only[okV] at ho;obtain⟨_,_,hk⟩:=hp b (top ho);obtain⟨hu,hk⟩:=hk k h1;rcases hk with hk|⟨k',hk,hs,hr,hl⟩
  ·exact .QW b i off _ hk hu rfl
  ·rw[<-hs];exact .ptr b i off B o k' hk (hl.trans h2) (by grind)
 | mp b B k h1 h2 h3=>
  intro ho;simp only[okV] at ho;obtain⟨_,_,hk⟩:=hp b (top ho);obtain⟨hu,hk⟩:=hk k h1;rcases hk with hk|⟨k',hk,hs,hr,hl⟩
  ·exact .QI b _ hk hu rfl
  ·exact .mp b B k' hk (hl.trans h2) (by grind)
 | QI b v h1 h2 h3=>
  intro ho;simp only[okV] at ho;obtain⟨hu,hg,_⟩:=hp b (top ho);exact .QI b v (hg h2 h1) (hu h2) h3
 | QW b i off v h1 h2 h3=>
  intro ho;simp only[okV] at ho;obtain⟨hu,hg,_⟩:=hp b (top ho);exact .QW b i off v (hg h2 h1) (hu h2) h3
 | fn f first captured fs cs h1 h2 _ _ ih1 ih2=>
  intro ho;simp only[okV,zF] at ho;exact .fn f first captured fs cs h1 h2 (by grind [Yv]) (by grind [Yv])
 | agg cells vs h1 _ ih=>intro ho;exact .agg cells vs h1 (by grind [Yv,okV])
 | Qt cells vs h1 _ ih=>intro ho;exact .Qt cells vs h1 (by grind [Yv,okV])
def E3(n:Nat)(t:Nat->V)(b:zj):St:=⟨n,t,b,Qk⟩
theorem Qc.resume{G:zi}{γ γ':Gh}{w w':World}{n m:Nat}{t t':Nat->V}{b b':zj}{te tm:Array Value}(h:Qc G γ (E3 n t b) te w)(ht:∀i,okV X8 (t i)=true)
  (g:Qd γ w γ' w') (hp:Zf γ b Qk γ' b' Qk) (h':Qc G γ' (E3 m t' b') tm w'):Qc G γ' (E3 n t b') te w':=
 ⟨h.n,λi=>(h.t i).Uk g hp (ht i),h'.b,h'.u,h'.g,h'.o⟩
def Ki(st:St)(l:List (Nat×V)):St:=l.foldl (λst p=>st.QR p.1 p.2) st
theorem Qc.Ki{G:zi}{γ:Gh}{w:World}:∀{ps:List Nat} {cs:List V} {vs:List Value} {st:St} {ts:Array Value},Qc G γ st ts w->(∀p,p∈ps->p < st.n)->cs.length=ps.length->vs.length=ps.length->
  (∀(i:Nat) (c:V) (v:Value),cs[i]?=some c->vs[i]?=some v->Qy γ w st.b st.u c v)->Qc G γ (EV.Ki st (ps.zip cs)) ((ps.zip vs).foldl (λt p=>t.setIfInBounds p.1 p.2) ts) w
 | [],cs,vs,st,ts,h,_,_,_,_=>by simpa[EV.Ki] using h
 | p :: ps,c :: cs,v :: vs,st,ts,h,hp,h1,h2,hr=>by
  have key:Qc G γ (st.put (some p) c) ((⟨ts,[]⟩:Act).put (some p) v).tmps w:=Qc.put (a:=⟨ts,[]⟩) h (by grind [H9]) (hr 0 c v rfl rfl);exact Qc.Ki (ps:=ps) (cs:=cs) (vs:=vs) (st:=st.QR p c) key (λq hq=>hp q (by simp[hq])) (by simpa using h1) (by simpa using h2) λi c' v' hc hv=>hr (i+1) c' v' (by simpa using hc) (by simpa using hv)
 | p :: ps,[],vs,st,ts,_,_,h1,_,_=>by simp at h1
 | p :: ps,c :: cs,[],st,ts,_,_,_,h2,_=>by simp at h2
theorem Fa:∀(L:List (Nat×V)) (s:St),(Ki s L).b=s.b/\(Ki s L).u=s.u
 | [],_=>⟨rfl,rfl⟩
 | p :: L,s=>⟨(Fa L (s.QR p.1 p.2)).1,(Fa L (s.QR p.1 p.2)).2⟩
def JS(P:Program)(G:zi)(n:Nat)(t:Nat->V)(ps:List Nat)(assign body:Code)(b:zj)(cs:List V)(R:Exit->(zj)->Prop):Prop:=
 ∃st1,TV P G assign (Ki (E3 n t b) (ps.zip cs)) (λe s=>e=.normal/\QH G s st1)/\
  TV P G body st1 (λe s=>∃b' m,R e b'/\QH G s (E3 m (λ_=>.undef) b'))
def YC:Exit->Option Code
 | .ret=>some .ret
 | .exit id=>some (.exit id)
 | _=>none
def I2(fn:FuncId)(te:Array Value)(ps:Array Tmp)(assign body:Code)(D:Nat)(e:Exit):Loop:=
 { state:=if (YC e).isNone then .ready else .done,pending:=YC e,fn,tmps:=te,params:=ps,assign,body,defers:=D }
structure YL where
 n:Nat
 t:Nat->V
 ps:Array Tmp
 assign:Code
 body:Code
structure Env(G:zi)(L:YL)(γ0:Gh)(w0:World)(b0:zj)(l D:Nat)(Ds:List Nat)(sz:Nat)(te:Array Value)(r:Loop)(γ:Gh)(b:zj)(u:zl)(w:World):Prop where
 jP:Qc G γ0 (E3 L.n L.t b0) te w0
 grow:Qd γ0 w0 γ w
 Uk:Zf γ0 b0 Qk γ b u
 loop:w.heap[l]?=some (.loop r)
 own:γ.own l=none
 lo:w0.heap.size<=l/\l < sz/\w0.heap.size<=sz/\sz<=w.heap.size
 dfr:∀E,E∈Ds->w.heap[E]?=some (.deferred (some []))/\γ.own E=none/\w0.heap.size<=E/\E < sz/\E≠l
def I6(sz:Nat)(γ:Gh)(w:World)(ds:List Deferred):Prop:=
 ∃Es:List Nat,ds=Es.map Yb/\Es.Nodup/\∀E,E∈Es->sz<=E/\w.heap[E]?=some (.deferred (some []))/\γ.own E=none
theorem I6.nil{sz:Nat}{γ:Gh}{w:World}:I6 sz γ w []:=⟨[],rfl,by simp,λE h=>by simp at h⟩
theorem I6.trans{sz:Nat}{γ γ':Gh}{w w':World}{ds ds':List Deferred}(h:I6 sz γ w ds)(g:Qd γ w γ' w')(k:Marks true w γ' w' ds ds')(hz:sz<=w.heap.size):I6 sz γ' w' ds':=by
 obtain⟨Es,rfl,h2,h3⟩:=h;obtain⟨Fs,_,k1,k2,k3⟩:=k;have lt:∀E,E∈Es->E < w.heap.size:=(by grind);refine⟨Fs++Es,by rw[k1];simp,List.nodup_append.2 ⟨k2,h2,λx hx y hy e=>?_⟩,λE hE=>?_⟩
 ·grind
 ·rcases wk.1 hE with hE|hE
  ·grind
  ·obtain⟨a1,a2,a3⟩:=h3 E hE;obtain⟨b1,b2,_⟩:=g.free E (lt E hE) a3;grind
theorem I6.grow{sz:Nat}{γ γ':Gh}{w w':World}{ds:List Deferred}(h:I6 sz γ w ds)(g:Qd γ w γ' w'):I6 sz γ' w' ds:=by
 obtain⟨Es,h1,h2,h3⟩:=h;refine⟨Es,h1,h2,λE hE=>?_⟩;obtain⟨a1,a2,a3⟩:=h3 E hE;obtain⟨b1,b2,_⟩:=g.free E (by grind) a3;grind
theorem I6.put{sz:Nat}{γ:Gh}{w:World}{ds:List Deferred}{l:Nat}{r:Loop}{o:Obj}(h:I6 sz γ w ds)(hl:w.heap[l]?=some (.loop r)):I6 sz γ (w.putObj l o) ds:=by
 obtain⟨Es,h1,h2,h3⟩:=h;refine⟨Es,h1,h2,λE hE=>?_⟩;grind [World.putObj_heap_other]
section
variable {P:Program} {G:zi} {L:YL} {γ0:Gh} {w0:World} {b0:zj} {l D:Nat} {Ds:List Nat} {sz:Nat} {te:Array Value} {r:Loop} {γ:Gh} {b:zj} {u:zl} {w:World}
theorem Env.step(h:Env G L γ0 w0 b0 l D Ds sz te r γ b u w){γ':Gh}{b':zj}{u':zl}{w':World}(g:Qd γ w γ' w')(hp:Zf γ b u γ' b' u'):Env G L γ0 w0 b0 l D Ds sz te r γ' b' u' w':=by
 have l1:=(wF.1 h.loop).1;refine⟨h.jP,h.grow.trans g,h.Uk.trans hp,(g.free l l1 h.own).1.trans h.loop,(g.free l l1 h.own).2.1,⟨h.lo.1,h.lo.2.1,h.lo.2.2.1,Nat.le_trans h.lo.2.2.2 g.size⟩,λE hE=>?_⟩;obtain⟨a1,a2,a3⟩:=h.dfr E hE;obtain⟨b1,b2,_⟩:=g.free E (by grind) a2;grind
theorem Env.put(h:Env G L γ0 w0 b0 l D Ds sz te r γ b u w){i:Nat}{o o':Obj}(hi:w.heap[i]?=some o)(hn:Gc o=false)(h0:w0.heap.size<=i)(hil:i≠l)(hd:∀E,E∈Ds->E≠i):Env G L γ0 w0 b0 l D Ds sz te r γ b u (w.putObj i o'):=
 ⟨h.jP,h.grow.put hi hn h0,h.Uk,(World.putObj_heap_other (Ne.symm hil)).trans h.loop,h.own,⟨h.lo.1,h.lo.2.1,h.lo.2.2.1,by rw[World.putObj_size];exact h.lo.2.2.2⟩,λE hE=>by
  obtain⟨a1,a2⟩:=h.dfr E hE;grind [World.putObj_heap_other,trans]⟩
theorem Env.record(h:Env G L γ0 w0 b0 l D Ds sz te r γ b u w)(r':Loop):Env G L γ0 w0 b0 l D Ds sz te r' γ b u (w.putObj l (.loop r')):=
 ⟨h.jP,h.grow.put h.loop rfl h.lo.1,h.Uk,World.putObj_heap_same (wF.1 h.loop).1,h.own,⟨h.lo.1,h.lo.2.1,h.lo.2.2.1,by rw[World.putObj_size];exact h.lo.2.2.2⟩,λE hE=>by
  obtain⟨a1,a2,a3,a4,a5⟩:=h.dfr E hE;grind [World.putObj_heap_other,trans]⟩
theorem GB{fn:FuncId}{ni:Nat}{ti:Nat->V}{tm:Array Value}{cs:List V}{as:Array Value}{R:Exit->(zj)->Prop}{X:Ending->World->Prop}(hs:Qc G γ (E3 ni ti b) tm w)(hti:∀i,okV X8 (ti i)=true)(ht:∀i,okV X8 (L.t i)=true)(hpn:∀p,p∈L.ps.toList->p < L.n)
  (he:Env G L γ0 w0 b0 l D Ds sz te (I2 fn te L.ps L.assign L.body D .normal) γ b Qk w) (hps:cs.length=L.ps.size) (hr:JS P G L.n L.t L.ps.toList L.assign L.body b cs R) (hR:∀e b',R e b'->e=.normal\/e=.ret\/∃id,e=.exit id)
  (ha:as.size=L.ps.size) (hcs:∀(i:Nat) (c:V) (v:Value),cs[i]?=some c->as[i]?=some v->Qy γ w b Qk c v)
  {ds:List Deferred} (hk:I6 sz γ w ds)
  (hX:∀e b' γ' w',R e b'->Env G L γ0 w0 b0 l D Ds sz te (I2 fn te L.ps L.assign L.body D e) γ' b' Qk w'->Qc G γ' (E3 ni ti b') tm w'->I6 sz γ' w' ds->(∀B,B < w.heap.size->γ.own B=none->B≠l->w'.heap[B]?=w.heap[B]?/\γ'.own B=none/\γ'.Qp B=γ.Qp B)->X (.returned (.bool (YC e).isNone)) w') :
  RoundIn (RF none) 0 P l fn ((L.ps.zip as).foldl (λt (p,v)=>t.setIfInBounds p v) te) L.assign L.body w X:=by
 obtain⟨st1,r1,r2⟩:=hr;have e1:(L.ps.zip as).foldl (λt (p,v)=>t.setIfInBounds p v) te=(L.ps.toList.zip as.toList).foldl (λt p=>t.setIfInBounds p.1 p.2) te:=by
  rw[<-Array.foldl_toList,Array.toList_zip]
 refine roundIn_of_wpIn trivial ?_;rw[e1];have sT:Qc G γ (E3 L.n L.t b) te w:=he.jP.resume ht he.grow he.Uk hs;have h1:Qc G γ (Ki (E3 L.n L.t b) (L.ps.toList.zip cs)) ((L.ps.toList.zip as.toList).foldl (λt p=>t.setIfInBounds p.1 p.2) te) w:=
  Qc.Ki sT hpn (by grind) (by simpa using ha) λi c v hc hv=>hcs i c v hc (by simpa using hv)
 have b1:=Fa (L.ps.toList.zip cs) (E3 L.n L.t b);refine wpIn_mono (r1 ⟨some l,[],true⟩ γ ⟨_,[]⟩ w h1 ⟨rfl,rfl,λl' hl'=>by cases hl';exact⟨⟨_,he.loop⟩,he.own⟩⟩) λe a1 w1 hl=>?_;obtain⟨s1,γ1,k1,⟨k2,k2p⟩,k3,rfl,k4⟩:=hl;obtain⟨γ2,m1,m2,m3⟩:=k4 γ1 a1.tmps w1 k1
 have g2:=k2.trans m2
 have p2:=k2p.trans m3;rw[b1.1,b1.2] at p2
 have hl1:w1.heap[l]?=some (.loop (I2 fn te L.ps L.assign L.body D .normal)):=(k2.free l (wF.1 he.loop).1 he.own).1.trans he.loop;refine⟨_,run_beginRound hl1 rfl,?_⟩
 have cs1:∀o',Y1 w1 (w1.putObj l o'):=λo'=>.put hl1 rfl
 have own2:γ2.own l=none:=(g2.free l (wF.1 he.loop).1 he.own).2.1;refine wpIn_mono (r2 ⟨some l,a1.defers,true⟩ γ2 a1 _ ((cs1 _).Nc m1) ⟨rfl,rfl,(by grind [World.putObj_heap_same,Array.getElem?_eq_some_iff])⟩) λe a2 w2 hl=>?_;obtain⟨s2,γ3,n1,⟨n2,n2p⟩,n3,b',m,q1,q2⟩:=hl;obtain⟨γ4,o1,o2,o3⟩:=q2 γ3 a2.tmps w2 n1
 have g4:=n2.trans o2
 have p4:=n2p.trans o3
 have eB:=he.record { I2 fn te L.ps L.assign L.body D .normal with state:=.busy }
 have csw:∀o',Y1 w (w.putObj l o'):=λo'=>.put he.loop rfl
 have gB:Qd γ (w.putObj l (.loop { I2 fn te L.ps L.assign L.body D .normal with state:=.busy })) γ2 (w1.putObj l (.loop { I2 fn te L.ps L.assign L.body D .normal with state:=.busy })):=by
  refine⟨g2.os,g2.tape,g2.output,by simpa using g2.size,λB o v hB hc=>?_,λB hB=>g2.Qp B (by simpa using hB),λB hB hn=>?_,λB cs e fz hc=>?_⟩
  ·have hne:B≠l:=λe=>by
    subst e;obtain⟨c1,c2,c3,hb⟩:=Hh hc;rw[World.putObj_heap_same (wF.1 he.loop).1] at hb;cases hb
   refine(cs1 _).cell (g2.PQ B o v hB ?_);grind [World.putObj_heap_other,cellAt,World.cell?]
  ·rw[World.putObj_size] at hB;obtain⟨a1,a2,a3⟩:=g2.free B hB hn;grind [World.putObj_heap_same,Array.getElem?_eq_some_iff,World.putObj_heap_other]
  ·have hne:B≠l:=λe'=>by
    subst e';rw[World.putObj_heap_same (wF.1 he.loop).1] at hc;cases hc
   rw[World.putObj_heap_other hne] at hc;obtain⟨cs',fz',c1,c2⟩:=g2.room B cs e fz hc;grind [World.putObj_heap_other]
 have gT:=gB.trans g4
 have pT:Zf γ b Qk γ4 b' Qk:=p2.trans p4
 have sI:Qc G γ4 (E3 ni ti b') tm w2:=((csw _).Nc hs).resume hti gT pT o1
 have f1:=eB.step gT pT
 have hl2:=f1.loop
 have mk2:I6 sz γ4 w2 ds:=(hk.put he.loop).grow gT
 have fin:∀(e:Exit),R e b'->(Instr.endRound l (YC e)).run P w2=.ok (.bool (YC e).isNone) (w2.putObj l (.loop (I2 fn te L.ps L.assign L.body D e)))/\X (.returned (.bool (YC e).isNone)) (w2.putObj l (.loop (I2 fn te L.ps L.assign L.body D e))):=λe hRe=>
  ⟨run_endRound (P:=P) (YC e) hl2,hX e b' γ4 _ hRe (f1.record _) ((Y1.put hl2 rfl).Nc sI) (mk2.put hl2) λB hB hn hne=>by
   obtain⟨q1,q2,q3⟩:=gT.free B (by simpa using hB) hn;grind [World.putObj_heap_other,trans]⟩
 rcases hR e b' q1 with rfl|rfl|⟨id,rfl⟩
 ·exact⟨_,_,fin .normal q1⟩
 ·exact⟨_,_,fin .ret q1⟩
 ·exact⟨_,_,fin (.exit id) q1⟩
theorem yY{fn:FuncId}{o:Oper}{x:Operand}{xs:Array Operand}{ts:Array TypeId}{ni:Nat}{ti:Nat->V}{a:Act}{cs:List V}{R:Exit->(zj)->Prop}{nx:Act->World->Prop}{Q:Exit->Act->World->Prop}
  (ho:o.op=.call { callee:=.value x,args:=xs,argTypes:=ts }) (hx:(E3 ni ti b).ev G x=some (.QB l)) (hcs:rT ((E3 ni ti b).ev G) xs.toList=some cs)
  (hs:Qc G γ (E3 ni ti b) a.tmps w) (hti:∀i,okV X8 (ti i)=true) (ht:∀i,okV X8 (L.t i)=true) (hpn:∀p,p∈L.ps.toList->p < L.n)
  (he:Env G L γ0 w0 b0 l D Ds sz te (I2 fn te L.ps L.assign L.body D .normal) γ b Qk w) (hps:cs.length=L.ps.size) (hr:JS P G L.n L.t L.ps.toList L.assign L.body b cs R) (hR:∀e b',R e b'->e=.normal\/e=.ret\/∃id,e=.exit id)
  (hk:I6 sz γ w a.defers) (hX:∀e b' γ' w',R e b'->Env G L γ0 w0 b0 l D Ds sz te (I2 fn te L.ps L.assign L.body D e) γ' b' Qk w'->Qc G γ' (E3 ni ti b') a.tmps w'->I6 sz γ' w' a.defers->(∀B,B < w.heap.size->γ.own B=none->B≠l->w'.heap[B]?=w.heap[B]?/\γ'.own B=none/\γ'.Qp B=γ.Qp B)->nx (a.put o.dst (.bool (YC e).isNone)) w') :
  o.wpIn (RF none) 0 P a w nx Q:=by
 refine⟨λ_ _=>trivial,?_⟩;have hv:=(hs.ev hx).oM;have e : (execOp a.eval o) = (do let d <- Deferred.ofValue (a.eval x) (xs.map a.eval); invoke d.target d.args) := by
  unfold execOp;rw[ho];rfl
 have hm:=Ku hs hcs
 have k:(xs.toList.map a.eval).toArray=xs.map a.eval:=(by grind);rw[k] at hm
 have hsz:(xs.map a.eval).size=L.ps.size:=hm.1.trans hps
 have hrun:(execOp a.eval o).run P w=.ok (.round l fn ((L.ps.zip (xs.map a.eval)).foldl (λt (p,v)=>t.setIfInBounds p v) te) L.assign L.body) w:=by
  rw[e,hv];have : (do let d <- Deferred.ofValue (.func (.yield l) #[] #[]) (xs.map a.eval); invoke d.target d.args : Sem Next) = Instr.yield l (xs.map a.eval) := by
   simp[Deferred.ofValue,invoke]
  rw[this];exact run_yield he.loop hsz
 show o.uponIn _ _ _ _ _ _ (((o.semAt none a.eval)).run P w);rw[Oper.semAt_none,hrun,Oper.uponIn_round];refine⟨(by grind [RF,Fence.wide]),?_⟩;exact GB hs hti ht hpn he hps hr hR hsz (λi c v hc hv=>hm.2 i c v hc hv) hk (by grind)
end
def LD(P:Program)(G:zi)(c:Code)(m:Nat)(args:Nat->List V)(bi:zj)(L:YL)(R Rp:Exit->(zj)->Prop):Prop:=
 ∀(fn:FuncId) (γ0:Gh) (w0:World) (b0:zj) (l D:Nat) (Ds:List Nat) (sz:Nat) (te:Array Value) (γ:Gh) (a:Act) (w:World),
  Env G L γ0 w0 b0 l D Ds sz te (I2 fn te L.ps L.assign L.body D .normal) γ bi Qk w->Qc G γ (U3 m (args l) bi) a.tmps w->a.defers=[]->
  CW none P c (λe a' w'=>∃e2 b' γ' ni ti tm,((e=.normal\/e=.ret)/\R e2 b'\/(∃ch,e=.panic ch)/\Rp e b')/\Env G L γ0 w0 b0 l D Ds sz te (I2 fn te L.ps L.assign L.body D e2) γ' b' Qk w'/\Qc G γ' (E3 ni ti b') tm w'/\I6 sz γ' w' a'.defers) a w
abbrev UW(P:Program)(G:zi)(c:Code)(m:Nat)(args:Nat->List V)(bi:zj)(L:YL)(R:Exit->(zj)->Prop):Prop:=LD P G c m args bi L R λ_ _=>False
theorem heap_alloc(w:World)(o:Obj)(B:Nat)(hB:B < w.heap.size):(w.alloc o).heap[B]?=w.heap[B]?:=by
 show (w.heap.push o)[B]?=_;grind
theorem Qd.alloc(γ:Gh)(w:World)(o:Obj):Qd γ w γ (w.alloc o)/\Y1 w (w.alloc o):=by
 have cs:Y1 w (w.alloc o):=⟨by simp,(by grind [Array.getElem?_eq_some_iff,heap_alloc,trans]),(by grind [Array.getElem?_eq_some_iff,heap_alloc,trans])⟩;exact⟨(Qd.refl γ w).same cs (by grind [heap_alloc]) rfl rfl rfl,cs⟩
section
variable {P:Program} {G:zi}
theorem VS{L:YL}(fn:FuncId){fx:Fx}{γ:Gh}{st:St}{a:Act}{w:World}(hs:Qc G γ st a.tmps w)(hx:UK fx γ a.defers w) :
  ∃(l D:Nat) (Ds:List Nat) (w1:World),(Instr.enterLoop fn a.tmps L.ps L.assign L.body fx.ro).run P w=.ok (l,Ds.map Yb) w1/\Ds.Nodup/\w1.heap[l]?=some (.loop (I2 fn a.tmps L.ps L.assign L.body D .normal))/\
   (Qd γ w γ w1/\Y1 w w1)/\γ.own l=none/\(w.heap.size<=l/\l < w1.heap.size)/\∀E,E∈Ds->w1.heap[E]?=some (.deferred (some []))/\γ.own E=none/\w.heap.size<=E/\E < w1.heap.size/\E≠l:=by
 have hnone:∀B,w.heap.size<=B->γ.own B=none:=λB hB=>by
  cases ho:γ.own B with
  | none=>rfl
  | some x=>have:=hs.o B x ho;omega
 cases hro:fx.ro with
 | none=>
  have hL:((w.alloc (.deferred (some []))).alloc (.loop (I2 fn a.tmps L.ps L.assign L.body w.heap.size .normal))).heap[w.heap.size+1]?=some (.loop (I2 fn a.tmps L.ps L.assign L.body w.heap.size .normal)):=by
   grind [World.alloc_heap_new,World.size_alloc,I2]
  have hD:((w.alloc (.deferred (some []))).alloc (.loop (I2 fn a.tmps L.ps L.assign L.body w.heap.size .normal))).heap[w.heap.size]?=some (.deferred (some [])):=
   (heap_alloc _ _ _ (by simp)).trans (World.alloc_heap_new w _)
  obtain⟨x1,x2⟩:=Qd.alloc γ w (.deferred (some []));obtain⟨y1,y2⟩:=Qd.alloc γ (w.alloc (.deferred (some []))) (.loop (I2 fn a.tmps L.ps L.assign L.body w.heap.size .normal));refine⟨w.heap.size+1,w.heap.size,[w.heap.size],_,run_enterLoop_outer _ _ _ _ _,by simp,hL,⟨x1.trans y1,x2.trans y2⟩,hnone _ (by omega),⟨by omega,(wF.1 hL).1⟩,λE hE=>?_⟩;simp only[wH] at hE;subst hE;exact⟨hD,hnone _ (zN _),zN _,(wF.1 hD).1,by omega⟩
 | some l0=>
  obtain⟨⟨r0,h0⟩,_⟩:=hx.2.2 l0 hro;have hL:=World.alloc_heap_new w (.loop (I2 fn a.tmps L.ps L.assign L.body r0.defers .normal));exact⟨w.heap.size,r0.defers,[],_,run_enterLoop_inner h0 _ _ _ _ _,by simp,hL,Qd.alloc γ w _,hnone _ (zN _),⟨zN _,(wF.1 hL).1⟩,λE hE=>by simp at hE⟩
end
structure YS where
 x:Exit
 st:St
def iJ(G:zi)(L:YL)(l:Nat)(fn:FuncId)(γ0:Gh)(w0:World)(b0:zj)(D:Nat)(Ds:List Nat)(sz:Nat)(te:Array Value)(Q:Exit->YS->Prop)(e:Exit)(a':Act)(w':World):Prop:=
 ∃s' γ',I6 sz γ' w' a'.defers/\Env G L γ0 w0 b0 l D Ds sz te (I2 fn te L.ps L.assign L.body D s'.x) γ' s'.st.b s'.st.u w'/\Qc G γ' s'.st a'.tmps w'/\Q e s'
def YT(P:Program)(G:zi)(L:YL)(l:Nat)(c:Code)(s:YS)(Q:Exit->YS->Prop):Prop:=
 ∀(fn:FuncId) (γ0:Gh) (w0:World) (b0:zj) (D:Nat) (Ds:List Nat) (sz:Nat) (te:Array Value) (γ:Gh) (a:Act) (w:World),
  Env G L γ0 w0 b0 l D Ds sz te (I2 fn te L.ps L.assign L.body D s.x) γ s.st.b s.st.u w->Qc G γ s.st a.tmps w->I6 sz γ w a.defers->
  CW none P c (iJ G L l fn γ0 w0 b0 D Ds sz te Q) a w
def sU(next:YS->Prop)(Q:Exit->YS->Prop):Exit->YS->Prop
 | .normal,s=>next s
 | e,s=>Q e s
def Rr(id:Nat)(Q:Exit->YS->Prop):Exit->YS->Prop
 | .exit id',s=>if id'=id then Q .normal s else Q (.exit id') s
 | e,s=>Q e s
section
variable {P:Program} {G:zi} {L:YL} {l:Nat} {s:YS} {Q:Exit->YS->Prop}
theorem YT.mono{c:Code}{Q':Exit->YS->Prop}(h:YT P G L l c s Q)(hq:∀e s,Q e s->Q' e s):YT P G L l c s Q':=λfn γ0 w0 b0 D Ds sz te γ a w he hs hd=>
 wpIn_mono (h fn γ0 w0 b0 D Ds sz te γ a w he hs hd) λ_ _ _ ⟨s',γ',h1,h2,h3,h4⟩=>⟨s',γ',h1,h2,h3,hq _ _ h4⟩
theorem YT.tv{c:Code}{Q1:Exit->St->Prop}(h:TV P G c s.st Q1)(hq:∀e st,Q1 e st->Q e ⟨s.x,st⟩):YT P G L l c s Q:=λfn γ0 w0 b0 D Ds sz te γ a w he hs hd=>
 wpIn_mono (h ⟨none,a.defers,true⟩ γ a w hs (UK.free γ w)) λe a' w' hl=>by
  obtain⟨st',γ',h1,⟨h2,h2p⟩,h3,h4⟩:=hl;exact⟨⟨s.x,st'⟩,γ',hd.trans h2 h3 he.lo.2.2.2,he.step h2 h2p,h1,hq e st' h4⟩
theorem YT.seq{x y:Code}(h:YT P G L l x s (sU (λs=>YT P G L l y s Q) Q)):YT P G L l (.seq x y) s Q:=λfn γ0 w0 b0 D Ds sz te γ a w he hs hd=>by
 refine wpIn_seq (wpIn_mono (h fn γ0 w0 b0 D Ds sz te γ a w he hs hd) λe a' w' hl=>?_);obtain⟨s',γ',h1,h2,h3,h4⟩:=hl;cases e with
 | normal=>exact h4 fn γ0 w0 b0 D Ds sz te γ' a' w' h2 h3 h1
 | _=>exact⟨s',γ',h1,h2,h3,h4⟩
theorem YT.cond{o:Operand}{x y:Code}{b:Bool}(hc:s.st.ev G o=some (.bool b))(h:YT P G L l (if b then x else y) s Q):YT P G L l (.cond o x y) s Q:=λfn γ0 w0 b0 D Ds sz te γ a w he hs hd=>
 wpIn_cond ((hs.ev hc).QN) (h fn γ0 w0 b0 D Ds sz te γ a w he hs hd)
theorem YT.block{id:Nat}{c:Code}(h:YT P G L l c s (Rr id Q)):YT P G L l (.block id c) s Q:=λfn γ0 w0 b0 D Ds sz te γ a w he hs hd=>by
 refine wpIn_block (wpIn_mono (h fn γ0 w0 b0 D Ds sz te γ a w he hs hd) λe a' w' hl=>?_);obtain⟨s',γ',h1,h2,h3,h4⟩:=hl;cases e with
 | exit id'=>
  simp only[Rr] at h4;simp only[Exit.inBlock];split
  ·rename_i he;rw[if_pos he] at h4;exact⟨s',γ',h1,h2,h3,h4⟩
  ·rename_i he;rw[if_neg he] at h4;exact⟨s',γ',h1,h2,h3,h4⟩
 | _=>exact⟨s',γ',h1,h2,h3,h4⟩
theorem YT.skip(h:Q .normal s):YT P G L l .skip s Q:=λ_ _ _ _ _ _ _ _ γ _ _ he hs hd=>wpIn_skip ⟨s,γ,hd,he,hs,h⟩
theorem YT.exit{id:Nat}(h:Q (.exit id) s):YT P G L l (.exit id) s Q:=λ_ _ _ _ _ _ _ _ γ _ _ he hs hd=>wpIn_exit ⟨s,γ,hd,he,hs,h⟩
theorem YT.loop{c:Code}(I:Nat->YS->Prop)(round:∀n s,I n s->YT P G L l c s (sU (λs'=>∃m,m < n/\I m s') Q)){n:Nat}(h:I n s):YT P G L l (.loop c) s Q:=λfn γ0 w0 b0 D Ds sz te γ a w he hs hd=>by
 refine RE (λn a' w'=>iJ G L l fn γ0 w0 b0 D Ds sz te (λ_ s=>I n s) .normal a' w') (λn a' w' hI=>?_) n a w ⟨s,γ,hd,he,hs,h⟩;obtain⟨s',γ',h1,h2,h3,h4⟩:=hI;refine wpIn_mono (round n s' h4 fn γ0 w0 b0 D Ds sz te γ' a' w' h2 h3 h1) λe a2 w2 hl=>?_;obtain⟨s2,γ2,k1,k2,k3,k4⟩:=hl;cases e with
 | normal=>obtain⟨m,hm,hI⟩:=k4;exact⟨m,hm,s2,γ2,k1,k2,k3,hI⟩
 | _=>exact⟨s2,γ2,k1,k2,k3,k4⟩
theorem YT.XG{c:Code}{x:Exit}{st st':St}(g:QH G st st')(h:YT P G L l c ⟨x,st'⟩ Q):YT P G L l c ⟨x,st⟩ Q:=λfn γ0 w0 b0 D Ds sz te γ a w he hs hd=>by
 obtain⟨γ',h1,h2,h3⟩:=g γ a.tmps w hs;exact h fn γ0 w0 b0 D Ds sz te γ' a w (he.step h2 h3) h1 (hd.grow h2)
def J3(P:Program)(G:zi)(L:YL)(l:Nat)(ops:Array Oper)(is:List Nat)(s:YS)(Q:Exit->YS->Prop):Prop:=
 ∀(fn:FuncId) (γ0:Gh) (w0:World) (b0:zj) (D:Nat) (Ds:List Nat) (sz:Nat) (te:Array Value) (γ:Gh) (a:Act) (w:World),
  Env G L γ0 w0 b0 l D Ds sz te (I2 fn te L.ps L.assign L.body D s.x) γ s.st.b s.st.u w->Qc G γ s.st a.tmps w->I6 sz γ w a.defers->
  wpOpsIn (RF none) 0 P ops (iJ G L l fn γ0 w0 b0 D Ds sz te Q) is a w
theorem YT.region{id:Nat}{ops:Array Oper}(h:J3 P G L l ops (List.range ops.size) s Q):YT P G L l (.region id ops false) s Q:=λfn γ0 w0 b0 D Ds sz te γ a w he hs hd=>wpIn_region (h fn γ0 w0 b0 D Ds sz te γ a w he hs hd)
theorem J3.nil{ops:Array Oper}(h:Q .normal s):J3 P G L l ops [] s Q:=λ_ _ _ _ _ _ _ _ γ _ _ he hs hd=>⟨s,γ,hd,he,hs,h⟩
theorem J3.XG{ops:Array Oper}{is:List Nat}{x:Exit}{st st':St}(g:QH G st st')(h:J3 P G L l ops is ⟨x,st'⟩ Q):J3 P G L l ops is ⟨x,st⟩ Q:=λfn γ0 w0 b0 D Ds sz te γ a w he hs hd=>by
 obtain⟨γ',h1,h2,h3⟩:=g γ a.tmps w hs;exact h fn γ0 w0 b0 D Ds sz te γ' a w (he.step h2 h3) h1 (hd.grow h2)
theorem HE{F:Fence}{n:Nat}{ops:Array Oper}{Q:Exit->Act->World->Prop}(js:List Nat):∀(is:List Nat) (a:Act) (w:World),wpOpsIn F n P ops (λe a w=>e=.normal/\wpOpsIn F n P ops Q js a w) is a w->wpOpsIn F n P ops Q (is++js) a w
 | [],a,w,h=>h.2
 | i :: is,a,w,h=>by
  have ih:=HE (F:=F) (n:=n) (ops:=ops) (Q:=Q) js is;simp only[wpOpsIn,List.cons_append] at h ⊢;split
  ·grind
  ·rename_i o hi;rw[hi] at h;simp only at h ⊢;split
   ·rename_i hw;rw[if_pos hw] at h;refine⟨h.1,?_⟩;have h:=h.2;unfold Oper.uponIn at h ⊢;split at h
    ·exact ih _ _ h
    ·exact ih _ _ h
    ·exact ih _ _ h
    ·refine⟨h.1,CallsIn.mono h.2 λe w' hr=>?_⟩;cases e with
     | returned v=>grind
     | panicked ch=>grind
     | outgrown=>obtain⟨a0,w0,h2⟩:=hr;grind
    ·grind [RowsIn.mono]
    ·refine⟨h.1,RoundIn.mono h.2 λe w' hr=>?_⟩;cases e with
     | returned v=>grind
     | panicked ch=>grind
     | outgrown=>obtain⟨a0,w0,h2⟩:=hr;grind
    ·grind
    grind
   grind
theorem J3.tv{ops:Array Oper}{is js:List Nat}{Q1:Exit->St->Prop}(h:U8 P G ops is s.st Q1)(hq:∀e st,Q1 e st->e=.normal/\J3 P G L l ops js ⟨s.x,st⟩ Q):J3 P G L l ops (is++js) s Q:=λfn γ0 w0 b0 D Ds sz te γ a w he hs hd=>by
 refine HE js is a w (H7 (λe a' w' hl=>?_) is a w (h ⟨none,a.defers,true⟩ γ a w hs (UK.free γ w)));obtain⟨st',γ',h1,⟨h2,h2p⟩,h3,h4⟩:=hl;obtain⟨rfl,h5⟩:=hq e st' h4;exact⟨rfl,h5 fn γ0 w0 b0 D Ds sz te γ' a' w' (he.step h2 h2p) h1 (hd.trans h2 h3 he.lo.2.2.2)⟩
theorem J3.step{ops:Array Oper}{i:Nat}{is:List Nat}{st':St}(h:stepG P G ops i s.st=some st')(hr:J3 P G L l ops is ⟨s.x,st'⟩ Q):J3 P G L l ops (i :: is) s Q:=
 J3.tv (is:=[i]) (js:=is) (Q1:=λe st=>e=.normal/\st=st') (U8.cons (Zt h) (U8.nil ⟨rfl,rfl⟩)) (by grind)
theorem LD.of{c:Code}{m:Nat}{args:Nat->List V}{bi:zj}{R Rp:Exit->(zj)->Prop}
  (h:∀l,YT P G L l c ⟨.normal,U3 m (args l) bi⟩ (λe s=>∃ni ti b',QH G s.st (E3 ni ti b')/\((e=.normal\/e=.ret)/\R s.x b'\/(∃ch,e=.panic ch)/\Rp e b'))):LD P G c m args bi L R Rp:=λfn γ0 w0 b0 l D Ds sz te γ a w he hs hd=>
 wpIn_mono (h l fn γ0 w0 b0 D Ds sz te γ a w he hs (by rw[hd];exact I6.nil)) λe a' w' hl=>by
  obtain⟨s',γ',h1,h2,h3,ni,ti,b',h5,h6⟩:=hl;obtain⟨γ2,k1,k2,k3⟩:=h5 γ' a'.tmps w' h3;exact⟨s'.x,b',γ2,ni,ti,a'.tmps,h6,h2.step k2 k3,k1,h1.grow k2⟩
theorem UW.of{c:Code}{m:Nat}{args:Nat->List V}{bi:zj}{R:Exit->(zj)->Prop}
  (h:∀l,YT P G L l c ⟨.normal,U3 m (args l) bi⟩ (λe s=>(e=.normal\/e=.ret)/\∃ni ti b',QH G s.st (E3 ni ti b')/\R s.x b')):UW P G c m args bi L R:=
 LD.of λl=>(h l).mono (by grind)
end
def Y0(P:Program)(G:zi)(kp:List Nat)(n:Nat)(c:Code)(x:Ext){ρ:Type}(g:T P G ρ)(E:ρ->Ext):Prop:=
 (x.ok,sx P G kp 100000 ρ (.FT E) g (.inl c) [] (x.D n))=(true,g.expect (.FT E))
theorem Y0.tv{P:Program}{G:zi}{kp:List Nat}{n:Nat}{c:Code}{x:Ext}{ρ:Type}{g:T P G ρ}{E:ρ->Ext}(h:Y0 P G kp n c x g E)(hm:P.follows .mixedOrders=true){r:ρ}(hr:g.run=some r)(hE:(E r).ok=true) :
  TV P G c (x.D n).st (λe s=>e=(E r).ex/\QH G s ((E r).D n).st):=by
 simp only[Y0,zO] at h;have key:TV P G c (x.D n).st (S6 P (.FT E) r n):=Nl hm 100000 _ _ _ _ _ _ _ (Jt h.1) h.2 hr;refine key.mono λe s hg=>?_;obtain⟨g1,g2,g3,g4⟩:=hg;grind [ZE]
theorem U8.sN{P:Program}{G:zi}{ops:Array Oper}{Q:Exit->St->Prop}{p:Y4}{st:St}{m:Nat}(h:∀i,i < m->A7 P G ops i (H5 p st i) (p.rs i) (p.ws i))(hq:Q .normal (H5 p st m)) :
  ∀n k,k+n=m->U8 P G ops (List.range' k n) (H5 p st k) Q
 | 0,k,hk=>by
  grind [U8.nil]
 | n+1,k,hk=>by
  rw[List.range'_succ];exact U8.cons (h k (by omega) _ rfl (λl _=>O4.refl _ l)) (U8.sN h hq n (k+1) (by omega))
theorem U8.rel{P:Program}{G:zi}{ops:Array Oper}{l:List Nat}{st:St}{Q Q':Exit->St->Prop}(h:U8 P G ops l st Q')(hq:∀e s,Q' e s->Rel P G Q e s):U8 P G ops l st Q:=λfx γ a w hs hd=>
 H7 (λe a' w' hl=>by
  obtain⟨st',γ',h1,h2,h3,h4⟩:=hl;exact(hq e st' h4 ⟨fx.ro,a'.defers,fx.mx⟩ γ' a' w' h1 rfl).Ln h2 h3) l a w (h fx γ a w hs hd)
def K0(P:Program)(G:zi)(kp:List Nat)(n id:Nat)(ops:Array Oper)(m:Nat)(x:Ext){ρ:Type}(g:T P G ρ)(E:ρ->Ext):Prop:=
 (x.ok,rg P G id ops (List.range' 0 m) g (x.D n).st [] (x.D n).sy (λg s p sy=>AH kp (x.D n) s p sy λd'=>sx P G kp 100 ρ (.FT E) g (.inr .normal) [] d') λ_ _ _ _ _=>.stuck 79)=(true,g.expect (.FT E))
theorem K0.tv{P:Program}{G:zi}{kp:List Nat}{n id:Nat}{ops:Array Oper}{m:Nat}{x:Ext}{ρ:Type}{g:T P G ρ}{E:ρ->Ext}(h:K0 P G kp n id ops m x g E)(hm:P.follows .mixedOrders=true){r:ρ}(hr:g.run=some r)(hE:(E r).ok=true) :
  U8 P G ops (List.range' 0 m) (x.D n).st (λe s=>e=(E r).ex/\QH G s ((E r).D n).st):=by
 simp only[K0,zO] at h;have hd:=Jt (n:=n) h.1;rcases AZ (st0:=(x.D n).st) m g (x.D n).st [] (x.D n).sy h.2 hr ⟨rfl,λj hj=>by simp at hj⟩ hd.sy with⟨g',s,p,sy',x1,x2,x3,x4,x5⟩|⟨_,_,_,_,_,_,_,x1,_⟩
 rotate_left
 ·exact absurd x1 (Z4 _ _ _)
 simp only[List.length_nil,zW] at x5;have hs:s=H5 p (x.D n).st m:=by rw[<-x5];exact x3.1
 obtain⟨d',y1,y2,y3,y4⟩:=Wz x1 (λj=>Z4 _ g' j) hd hs x4;have hq:Rel P G (S6 P (.FT E) r d'.n) .normal d'.st:=Nl hm 100 _ _ _ _ _ _ _ y2 y1 x2;rw[y4] at hq;have key:=U8.sN (Q:=λe s'=>e=.normal/\s'=s) (m:=m) (λi hi=>x3.2 i (by omega)) ⟨rfl,hs.symm⟩ m 0 (by omega);refine U8.rel key λe s' he=>?_;obtain⟨rfl,rfl⟩:=he;refine(hq.forget y3).mono λs2 hg=>?_;obtain⟨g1,g2,g3,g4⟩:=hg;have f:=ZE (G:=G) (s:=s2) hE g3 g4;rw[show s2.n=n from g2] at f;grind
def Zm(ts:List (Nat×V))(i:Nat):V:=match ts.find? (λp=>p.1==i) with|some p=>p.2|none=>.undef
theorem H8{x:Ext}(h:(x.bs.all λp=>decide (1000000<=p.1))=true)(n:Nat):(x.D n).st=E3 n (Zm x.ts) (Qe x.bs):=by
 have hu:(λi=>x.us.contains i || Qk i)=Qk:=funext λi=>by
  cases hu:Qk i with
  | true=>simp
  | false=>
   simp only[Bool.or_false];refine Bool.eq_false_iff.2 λhc=>?_;simp only[Ext.us,wj,zI] at hc;obtain⟨p,hp,rfl⟩:=zM.1 hc;grind [List.all_eq_true,Qk]
 show (⟨n,Zm x.ts,Qe x.bs,λi=>x.us.contains i || Qk i⟩:St)=⟨n,Zm x.ts,Qe x.bs,Qk⟩;rw[hu]
theorem L6{u:zl}{ts:List (Nat×V)}(h:(ts.all λp=>okV u p.2)=true)(i:Nat):okV u (Zm ts i)=true:=by
 unfold Zm;cases hf:ts.find? (λp=>p.1==i) with
 | none=>rfl
 | some p=>grind
theorem Uj(n:Nat)(ts:List (Nat×V))(b:zj)(p:Nat)(c:V):Ki (E3 n (Zm ts) b) [(p,c)]=E3 n (Zm ((p,c) :: ts)) b:=by
 unfold Ki E3 Zm;simp only[List.foldl,St.QR,St.mk.injEq,true_and,and_true];grind
theorem B5{args:List V}{x:Ext}(hx:x.ts=U5 args)(hb:(x.bs.all λp=>decide (1000000<=p.1))=true)(n:Nat):(x.D n).st=U3 n args (Qe x.bs):=by
 rw[H8 hb,hx];unfold E3 U3;simp only[St.mk.injEq,true_and,and_true];exact funext λi=>Hm args 0 i
theorem RC{P:Program}{G:zi}{f:FuncId}{fn:Func}{c:Code}{n:Nat}{args:List V}{ins:zj}{res:V}{outs:zj}
  (hf:P.funcs[f]?=some fn) (hb:fn.body=some c) (hn:n=max fn.ntmps args.length) (hc:X3 8 res res=res) (h:TV P G c (U3 n args ins) (Ps P fn.results.toList res outs)):QS P G f args ins res outs:=
 Mg hf hb hn λγ a w hs hd=>wpIn_mono (h ⟨none,[],true⟩ γ a w hs ⟨hd,rfl,λ_ h=>by simp at h⟩) (by grind)
theorem YT.piece{P:Program}{G:zi}{L:YL}{l:Nat}{kp:List Nat}{n:Nat}{c:Code}{x:Ext}{ρ:Type}{g:T P G ρ}{E:ρ->Ext}{y:Exit}{Q:Exit->YS->Prop}
  (h:Y0 P G kp n c x g E) (hm:P.follows .mixedOrders=true) {r:ρ} (hr:g.run=some r) (hE:(E r).ok=true) (hq:∀s,QH G s ((E r).D n).st->Q (E r).ex ⟨y,s⟩):YT P G L l c ⟨y,(x.D n).st⟩ Q:=
 YT.tv (h.tv hm hr hE) (by grind)
def sh(b:Nat):Nat:=1000000+b
def un(b:Nat):Nat:=(b / 1000000 - 1) * 1000000+b % 1000000
theorem Uq(b:Nat):un (sh b)=b:=by unfold un sh;omega
theorem sE{b:Nat}(h:1000000<=b):sh (un b)=b:=by unfold un sh;omega
theorem KJ(b:Nat):1000000<=sh b:=by unfold sh;omega
attribute [irreducible] sh un
theorem Cw{b:Nat}(h:1000000<=b):Qk b=true:=by unfold Qk;grind
theorem LC(b:Nat):Qk (sh b)=true:=Cw (KJ b)
mutual
theorem Ly(s:Nat->Nat):∀c:V,W5 (W0 s c)=(W5 c).map s
 | .ref b o l=>rfl
 | .ptr b i o=>rfl
 | .mp b=>rfl
 | .fn f a c=>by simp only[W0,W5,wP];rw[YD s a,YD s c]
 | .agg l=>by simp only[W0,W5];exact YD s l
 | .Qt l=>by simp only[W0,W5];exact YD s l
 | .int _ _=>rfl
 | .bool _=>rfl
 | .str _=>rfl
 | .Zi=>rfl
 | .Zx=>rfl
 | .QB _=>rfl
 | .Qh=>rfl
 | .Zw _=>rfl
 | .sl _ _ _=>rfl
 | .snap _=>rfl
 | .undef=>rfl
theorem YD(s:Nat->Nat):∀l:List V,E8 (P8 s l)=(E8 l).map s
 | []=>rfl
 | c :: l=>by simp only[P8,E8,wP];rw[Ly s c,YD s l]
end
mutual
theorem Lz(s r:Nat->Nat)(h:∀b,s (r b)=b):∀c:V,W0 s (W0 r c)=c
 | .ref b o l=>by simp[W0,h]
 | .ptr b i o=>by simp[W0,h]
 | .mp b=>by simp[W0,h]
 | .fn f a c=>by simp only[W0];rw[YE s r h a,YE s r h c]
 | .agg l=>by simp only[W0];rw[YE s r h l]
 | .Qt l=>by simp only[W0];rw[YE s r h l]
 | .int _ _=>rfl
 | .bool _=>rfl
 | .str _=>rfl
 | .Zi=>rfl
 | .Zx=>rfl
 | .QB _=>rfl
 | .Qh=>rfl
 | .Zw _=>rfl
 | .sl _ _ _=>rfl
 | .snap _=>rfl
 | .undef=>rfl
theorem YE(s r:Nat->Nat)(h:∀b,s (r b)=b):∀l:List V,P8 s (P8 r l)=l
 | []=>rfl
 | c :: l=>by simp only[P8];rw[Lz s r h c,YE s r h l]
end
theorem Qa.uC(s r:Nat->Nat)(h:∀b,s (r b)=b)(k:Qa):(k.Qb r).Qb s=k:=by
 obtain⟨z,e,rows⟩:=k;simp only[Qa.Qb,wX];congr 1;have:(P8 s ∘ P8 r)=id:=funext λl=>YE s r h l;simp_all
def QY(b:zj)(i:Nat):Option Qa:=if 1000000<=i then (b (un i)).map (Qa.Qb sh) else none
theorem C0(b:zj)(i:Nat):QY b (sh i)=(b i).map (Qa.Qb sh):=by
 unfold QY;rw[if_pos (KJ _),Uq]
def St.shift(st:St):St:=E3 st.n (λi=>W0 sh (st.t i)) (QY st.b)
def M0.sh:M0->M0
 | .Zp b=>.Zp (EV.sh b)
 | .nest b i j=>.nest (EV.sh b) i j
def Gh.shift(γ:Gh):Gh where
 loc:=λi=>if 1000000<=i then γ.loc (un i) else none
 own:=λB=>(γ.own B).map M0.sh
 Qp:=γ.Qp
theorem Qc.shift{G:zi}{γ:Gh}{st:St}{tmps:Array Value}{w:World}(hs:Qc G γ st tmps w):Qc G γ.shift st.shift tmps w:=by
 have loc:∀b,γ.shift.loc (sh b)=γ.loc b:=λb=>by simp only[Gh.shift];rw[if_pos (KJ _),Uq]
 have tr:∀b,Tr γ st.b st.u γ.shift (QY st.b) Qk sh b:=λb=>by
  refine⟨λk hk=>⟨k.Qb sh,by rw[C0,hk];rfl,rfl,by simp[Qa.Qb],loc b⟩,(by grind [C0,LC])⟩
 refine⟨hs.n,λi=>Qy.Qb (γ1:=γ) (γ2:=γ.shift) (w:=w) (w':=w) (bs1:=st.b) (u1:=st.u) (bs2:=QY st.b) (u2:=Qk) (s:=sh) (λB o v h1 h2=>⟨h1,h2⟩) (λ_ _ h=>h) (hs.t i) (λb _=>tr b),λb k hk=>?_,λb k hk=>?_,hs.g,λB x hx=>?_⟩
 ·have hk':QY st.b b=some k:=hk;unfold QY at hk';split at hk'
  ·rename_i hb;obtain⟨k0,h0,rfl⟩:=zG.1 hk';have:=(hs.b _ _ h0).Qb (γ2:=γ.shift) (bs2:=QY st.b) (u2:=Qk) (s:=sh) (loc _) (λ_=>rfl) (λB hB=>by simp only[Gh.shift,hB];rfl) (λB i j hB=>by simp only[Gh.shift,hB];rfl) (λb' _=>tr b');rw[sE hb] at this;exact this
  ·simp at hk'
 ·have hk':QY st.b b=some k:=hk;unfold QY at hk';split at hk'
  ·rename_i hb;exact Cw hb
  ·simp at hk'
 ·simp only[Gh.shift] at hx;obtain⟨y,hy,_⟩:=zG.1 hx;exact hs.o B y hy
def M0.un:M0->Option M0
 | .Zp b=>if 1000000<=b then some (.Zp (EV.un b)) else none
 | .nest b i j=>if 1000000<=b then some (.nest (EV.un b) i j) else none
def Gh.Qo(γ:Gh):Gh where
 loc:=λi=>γ.loc (sh i)
 own:=λB=>(γ.own B).bind M0.un
 Qp:=γ.Qp
structure St.known(st:St):Prop where
 t:∀i,∀b,b∈W5 (st.t i)->st.u b=true
 b:∀i k,st.b i=some k->st.u i=true/\∀b,b∈E8 k.rows.flatten->st.u b=true
theorem Qc.Qo{G:zi}{γ:Gh}{st:St}{tmps:Array Value}{w:World}(hs:Qc G γ st.shift tmps w)(hk:st.known):Qc G γ.Qo st tmps w:=by
 have tr:∀b0,st.u b0=true->Tr γ (QY st.b) Qk γ.Qo st.b st.u un (sh b0):=λb0 hu=>by
  rw[Tr,Uq,C0];refine⟨λk h=>?_,λh _=>⟨by simpa using h,hu⟩⟩;obtain⟨k0,h0,rfl⟩:=zG.1 h;exact⟨k0,h0,rfl,by simp[Qa.Qb],rfl⟩
 have ownB:∀B b0,γ.own B=some (.Zp (sh b0))->γ.Qo.own B=some (.Zp b0):=λB b0 h=>by
  simp_all [wY,if_pos,KJ,Uq,Gh.Qo,M0.un]
 have ownN:∀B b0 i j,γ.own B=some (.nest (sh b0) i j)->γ.Qo.own B=some (.nest b0 i j):=λB b0 i j h=>by
  simp_all [wY,if_pos,KJ,Uq,Gh.Qo,M0.un]
 refine⟨hs.n,λi=>?_,λb k hb=>?_,λb k hb=>(hk.b b k hb).1,hs.g,λB x hx=>?_⟩
 ·have h0:Qy γ w (QY st.b) Qk (W0 sh (st.t i)) (tmps.getD i undef):=hs.t i
  have h1:=Qy.Qb (γ1:=γ) (γ2:=γ.Qo) (w:=w) (w':=w) (bs1:=QY st.b) (u1:=Qk) (bs2:=st.b) (u2:=st.u) (s:=un) (λB o v h1 h2=>⟨h1,h2⟩) (λ_ _ h=>h) h0 (λb hb=>by
   rw[Ly] at hb;obtain⟨b0,hb0,rfl⟩:=zM.1 hb;exact tr b0 (hk.t i b0 hb0))
  grind [Lz,Uq,un,sh]
 ·have hsb:QY st.b (sh b)=some (k.Qb sh):=by rw[C0,hb];rfl
  have h0:X1 γ w (QY st.b) Qk (sh b) (k.Qb sh):=hs.b (sh b) _ hsb
  have h1:=h0.Qb (γ2:=γ.Qo) (bs2:=st.b) (u2:=st.u) (s:=un) (by show γ.loc (sh (un (sh b)))=_;rw[Uq]) (λ_=>rfl) (by grind [Uq]) (by grind [Uq])
   (λb' hb'=>by
    have:E8 (k.Qb sh).rows.flatten=(E8 k.rows.flatten).map sh:=by
     show E8 ((k.rows.map (P8 sh)).flatten)=_;rw[Jo,YD]
    rw[this] at hb';obtain⟨b0,hb0,rfl⟩:=zM.1 hb';exact tr b0 ((hk.b b k hb).2 b0 hb0))
  grind [Uq,Qa.uC,un,sh]
 ·simp only[Gh.Qo] at hx;obtain⟨y,hy,_⟩:=wd.1 hx;exact hs.o B y hy
theorem F0.Qo{G:zi}{fx:Fx}{γ:Gh}{st:St}{w:World}{Q:Exit->St->Prop}{e:Exit}{a:Act}{w':World}
  (h:F0 G fx γ.shift st.shift w (λe s=>∃s',s=s'.shift/\s'.u=st.u/\s'.known/\Q e s') e a w') (hsu:∀b k,st.b b=some k->st.u b=true):F0 G fx γ st w Q e a w':=by
 obtain⟨_,γ1,h1,⟨h2,h3⟩,⟨Ds,m0,m1,m2,m3⟩,s',rfl,hu,hk,hq⟩:=h;have none1:∀B,γ1.own B=none->γ1.Qo.own B=none:=(by grind [Gh.Qo]);refine⟨s',γ1.Qo,h1.Qo hk,⟨⟨h2.os,h2.tape,h2.output,h2.size,h2.PQ,h2.Qp,λB hB hn=>?_,h2.room⟩,λb hb=>?_⟩,⟨Ds,m0,m1,m2,(by grind)⟩,hq⟩
 ·obtain⟨a1,a2,a3⟩:=h2.free B hB (by grind [Gh.shift]);exact⟨a1,none1 B a2,a3⟩
 ·obtain⟨p1,p2,p3⟩:=h3 (sh b) (by simp_all [zF,zI,KJ,X8,sh]);refine⟨(by grind),λh hn=>?_,λk hk'=>⟨?_,?_⟩⟩
  ·have:=p2 (LC b) (by show QY st.b (sh b)=none;rw[C0,hn];rfl)
   have h0:QY s'.b (sh b)=none:=this;simp_all [C0]
  ·grind
  ·obtain⟨_,q⟩:=p3 (k.Qb sh) (by show QY st.b (sh b)=_;rw[C0,hk'];rfl);rcases q with q|⟨k',q1,q2,q3,q4⟩
   ·have h0:QY s'.b (sh b)=none:=q;simp_all [C0]
   ·have h0:QY s'.b (sh b)=some k':=q1;rw[C0] at h0;obtain⟨k0,h00,rfl⟩:=zG.1 h0;refine .inr ⟨k0,h00,q2,by simpa[Qa.Qb] using q3,?_⟩
    have q4:γ1.loc (sh b)=γ.shift.loc (sh b):=q4;simp only[Gh.shift] at q4;rw[if_pos (KJ _),Uq] at q4;exact q4
theorem AB(p:Nat×Qa)(l:List (Nat×Qa))(i:Nat):Qe (p :: l) i=if p.1=i then some p.2 else Qe l i:=by
 unfold Qe;grind
theorem UI:∀l:List (Nat×Qa),QY (Qe l)=Qe (l.map λp=>(sh p.1,p.2.Qb sh))
 | []=>funext λi=>by simp_all [QY,Qe]
 | p :: l=>funext λi=>by
  have ih:=congrFun (UI l) i;rw[wu,AB];unfold QY at ih ⊢;rw[AB];by_cases h:sh p.1=i
  ·subst h;rw[if_pos rfl,if_pos (KJ _),Uq,if_pos rfl];rfl
  ·rw[if_neg h];by_cases hi:1000000<=i
   ·rw[if_pos hi] at ih ⊢;have:¬p.1=un i:=(by grind [sE]);grind
   grind
theorem jY(p:Nat×V)(l:List (Nat×V))(i:Nat):Zm (p :: l) i=if p.1=i then p.2 else Zm l i:=by
 unfold Zm;grind
theorem V9:∀l:List (Nat×V),(λi=>W0 sh (Zm l i))=Zm (l.map λp=>(p.1,W0 sh p.2))
 | []=>rfl
 | p :: l=>funext λi=>by
  have ih:=congrFun (V9 l) i;grind [jY]
theorem Ur(x:Ext)(n:Nat):(x.D n).st.shift=E3 n (Zm (x.ts.map λp=>(p.1,W0 sh p.2))) (Qe (x.bs.map λp=>(sh p.1,p.2.Qb sh))):=by
 rw[<-V9,<-UI];rfl
end Go.EV
