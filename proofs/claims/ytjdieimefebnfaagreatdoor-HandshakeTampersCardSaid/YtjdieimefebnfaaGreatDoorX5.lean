/- Part X5. -/
import Derived.Test.YtjdieimefebnfaaGreatDoorX4
import Derived.RangeFuncRecord
import Derived.RangeFuncNested
set_option linter.all false
namespace Go.EV
open Go
theorem It{α β:Type}(f:Nat->Nat)(h:Nat×α->β)(c c':Nat):∀(l:List (Nat×α)),(∀p,p∈l->(f p.1=c↔p.1=c'))->(l.map λp=>(f p.1,h p)).find? (λx=>x.1==c)=(l.find? λx=>x.1==c').map λp=>(f p.1,h p)
 | [],_=>rfl
 | p :: l,hp=>by
  have ih:=It f h c c' l (by grind);grind
theorem O8{α β:Type}(h:Nat×α->β)(c:Nat)(l:List (Nat×α)):(l.map λp=>(p.1,h p)).find? (λx=>x.1==c)=(l.find? λx=>x.1==c).map λp=>(p.1,h p):=
 It (λx=>x) h c c l λ_ _=>Iff.rfl
theorem D.UI(d:D)(b:Nat):d.st.b b=(match d.bs.find? (λp=>p.1==b) with|some p=>some p.2|none=>none):=rfl
theorem D.Qh2(d:D)(b:Nat):d.st.t b=(match d.ts.find? (λp=>p.1==b) with|some p=>p.2|none=>.undef):=rfl
theorem Ua{b:Nat}{us:List Nat}(c:Nat):ZT (b :: us) c=if c=b then true else ZT us c:=by
 grind [ZT]
mutual
theorem FH{u u':zl}{f:Nat->Nat}(h:∀b,u b=true->u' (f b)=true):∀c:V,okV u c=true->okV u' (W3 f c)=true
 | .int _ _,_=>rfl
 | .bool _,_=>rfl
 | .str _,_=>rfl
 | .Zi,_=>rfl
 | .Zd,_=>rfl
 | .QP _,_=>rfl
 | .Qu,_=>rfl
 | .Zu _,_=>rfl
 | .sl _ _ _,_=>rfl
 | .snap _,_=>rfl
 | .undef,_=>rfl
 | .ref b _ _,hc=>by grind [W3,okV]
 | .ptr b _ _,hc=>by grind [W3,okV]
 | .mp b,hc=>by grind [W3,okV]
 | .fn _ a c,hc=>by
  simp only[W3,okV,zL] at hc ⊢;exact⟨MV h a hc.1,MV h c hc.2⟩
 | .agg l,hc=>by simp only[W3,okV] at hc ⊢;exact MV h l hc
 | .Qc l,hc=>by simp only[W3,okV] at hc ⊢;exact MV h l hc
theorem MV{u u':zl}{f:Nat->Nat}(h:∀b,u b=true->u' (f b)=true):∀l:List V,Mn u l=true->Mn u' (S9 f l)=true
 | [],_=>rfl
 | c :: l,hc=>by
  simp only[S9,Mn,zL] at hc ⊢;exact⟨FH h c hc.1,MV h l hc.2⟩
end
theorem UG{u:zl}:∀{l:List V},Mn u l=true↔∀c,c∈l->okV u c=true
 | []=>by simp[Mn]
 | c :: l=>by simp[Mn,UG (l:=l)]
theorem uI{G:zi}{d:D}{a b:Nat}{next:D->C}{X:C}(h:Pn (.Qb a b) d next=X)(hX:∀j,C.stuck j≠X)(hd:d.Ok):∃d':D,next d'=X/\d'.Ok/\QU G d.st d'.st/\d'.n=d.n:=by
 simp only[Pn] at h;split at h
 rotate_left
 ·grind
 rename_i hub hab;simp only[qi,ne_eq] at hab;simp only[Kj,UP] at h;refine⟨_,h,?_⟩;have hno:∀p,p∈d.bs->p.1≠b:=λp hp e=>by
  cases hf:d.bs.find? (λx=>x.1==b) with
  | none=>grind
  | some q=>
   have:=(hd.Zs (b:=b) (k:=q.2) (by rw[D.UI,hf])).1;grind
 have hdata:∀p,d.bs.find? (λx=>x.1==p.1)=some p->p.1∈d.sy->J9 p.2.rows:=λp hp hs=>hd.sy p.1 hs p.2 (by rw[D.UI,hp]);have fb:∀p,p∈d.bs->(M1 a b p.1=b↔p.1=a):=(by grind [M1,absurd])
 have key:∀c c',(∀p,p∈d.bs->(M1 a b p.1=c↔p.1=c'))->(match (d.bs.map λp=>(M1 a b p.1,MR d.sy p.1 (M1 a b) p.2)).find? (λx=>x.1==c) with|some p=>some p.2|none=>none)=(d.st.b c').map (Qd.Qb (M1 a b)):=λc c' hc=>by
  rw[It (M1 a b) (λp=>MR d.sy p.1 (M1 a b) p.2) c c' d.bs hc,D.UI];cases hf:d.bs.find? (λx=>x.1==c') with
  | none=>rfl
  | some p=>
   simp only[wQ];rw[WR (by grind)]
 have e:(D.st ⟨d.n,d.ts.map λp=>(p.1,W3 (M1 a b) p.2),d.bs.map λp=>(M1 a b p.1,MR d.sy p.1 (M1 a b) p.2),b :: d.us,(d.sy.filter λx=>!(x==b)).map (M1 a b)⟩)=d.st.ZB a b:=by
  unfold D.st St.ZB;simp only[D2,St.mk.injEq,true_and];refine⟨funext λi=>?_,funext λc=>?_,funext λc=>?_⟩
  ·rw[O8 (λp=>W3 (M1 a b) p.2)];cases d.ts.find? (λx=>x.1==i)<;>rfl
  ·by_cases hcb:c=b
   ·subst hcb;rw[if_pos rfl];exact key c a fb
   ·rw[if_neg hcb];by_cases hca:c=a
    ·subst hca;rw[if_pos rfl];have:(d.bs.map λp=>(M1 c b p.1,MR d.sy p.1 (M1 c b) p.2)).find? (λx=>x.1==c)=none:=List.find?_eq_none.2 λx hx hxe=>by
      obtain⟨p,hp,rfl⟩:=zP.1 hx;simp only[M1,beq_iff_eq] at hxe;grind
     rw[this]
    ·rw[if_neg hca];refine key c c λp hp=>?_;unfold M1;grind
  grind
 have mu:∀c,ZT d.us c=true->ZT (b :: d.us) (M1 a b c)=true:=(by grind [Ua,M1,ZT]);refine⟨⟨λi=>?_,λ{c k} hk=>?_,?_⟩,?_,rfl⟩
 ·rw[e];exact FH mu _ (hd.tmp i)
 ·rw[e] at hk;simp only[St.ZB] at hk;have go:∀y k0,d.st.b y=some k0->ZT (b :: d.us) (M1 a b y)=true/\∀r,r∈(k0.Qb (M1 a b)).rows->∀c,c∈r->okV (ZT (b :: d.us)) c=true:=λy k0 h0=>by
   obtain⟨h1,h2⟩:=hd.Zs h0;refine⟨mu _ h1,λr hr c hc=>?_⟩;simp only[Qd.Qb] at hr;obtain⟨r0,hr0,rfl⟩:=zP.1 hr;rw[WN] at hc;obtain⟨c0,hc0,rfl⟩:=zP.1 hc;grind [FH]
  by_cases hcb:c=b
  ·subst hcb;rw[if_pos rfl] at hk;obtain⟨k0,h1,rfl⟩:=zJ.1 hk;grind [M1]
  ·rw[if_neg hcb] at hk;split at hk
   ·simp at hk
   ·rename_i hca;obtain⟨k0,h1,rfl⟩:=zJ.1 hk;grind [M1]
 ·rw[e];intro x hx k hk;obtain⟨y,hy,rfl⟩:=zP.1 hx;obtain⟨hy1,hy2⟩:=List.mem_filter.1 hy;simp only[wC,qi,ne_eq] at hy2;have src:∃k0,d.st.b y=some k0/\k=k0.Qb (M1 a b):=by
   simp only[St.ZB] at hk;by_cases hya:y=a
   ·subst hya;have e2:M1 y b y=b:=by simp[M1]
    rw[e2,if_pos rfl] at hk;grind [Option.map_eq_some_iff]
   ·have e2:M1 a b y=y:=by simp[M1,hya]
    rw[e2,if_neg hy2,if_neg hya] at hk;grind [Option.map_eq_some_iff]
  obtain⟨k0,h1,rfl⟩:=src;have:=hd.sy y hy1 k0 h1;rw[this.Qb];exact this
 ·rw[e];exact QU.ZB hab hub
theorem VC{G:zi}{d:D}{l:List Nat}{next:D->C}{X:C}(h:Pn (.drop l) d next=X)(hX:∀j,C.stuck j≠X)(hd:d.Ok):∃d':D,next d'=X/\d'.Ok/\QU G d.st d'.st/\d'.n=d.n:=by
 simp only[Pn] at h;split at h
 rotate_left
 ·grind
 rename_i hall;simp only[zN,zL] at hall;refine⟨_,h,?_⟩;have xT:∀p,p∈d.bs.filter (λp=>!l.contains p.1)->d.bs.find? (λx=>x.1==p.1)=some p->∀r,r∈p.2.rows->∀c,c∈r->okV (ZT (d.us.filter λb=>!l.contains b)) c=true:=λp hp hf r hr c hc=>by
  have:=(hall p hp).2;simp only[Mv,wi,wz,zM,zN] at this;rcases this with h1|h1
  ·exact R1 (hd.sy p.1 h1 p.2 (by rw[D.UI,hf]) r hr c hc) _
  grind
 have F:N7 d.st (D2 d.n (d.ts.filter λp=>okV (ZT (d.us.filter λb=>!l.contains b)) (d.st.t p.1)) (d.bs.filter λp=>!l.contains p.1) (d.us.filter λb=>!l.contains b)):=by
  refine⟨rfl,λi=>?_,λb=>?_,λb hb=>MC (Jg hb)⟩
  ·rw[Fy];cases hq:okV (ZT (d.us.filter λb=>!l.contains b)) (d.st.t i) with
   | false=>grind
   | true=>
    rw[O9 (q:=λj=>okV (ZT (d.us.filter λb=>!l.contains b)) (d.st.t j)) hq];exact .inr ⟨rfl,hq⟩
  ·rw[Mu];cases hq:(!l.contains b) with
   | false=>grind
   | true=>
    rw[O9 (q:=λj=>!l.contains j) hq];refine .inr ⟨rfl,λk hk=>?_⟩;rw[D.UI] at hk;split at hk
    ·rename_i p hp;simp only[zG] at hk;subst hk;obtain⟨h1,rfl⟩:=P9 hp;have hm:p∈d.bs.filter λp=>!l.contains p.1:=(by grind);exact⟨(hall p hm).1,xT p hm hp⟩
    ·simp at hk
 refine⟨D.Ok.Kz F λb hb k hk=>?_,QU.forget F,rfl⟩;rcases F.b b with e|⟨e,_⟩
 ·have:(none:Option Qd)=some k:=e.symm.trans hk;simp at this
 ·exact hd.sy b hb k (e.symm.trans hk)
theorem KH{f:V->Option V}{g:V->V}:∀{l r:List V},M4 f l=some r->(∀c,c∈l->f c=some (g c))->r=l.map g
 | [],r,h,_=>by grind [M4]
 | c :: l,r,h,hg=>by
  simp only[M4,hg c (by simp)] at h;split at h
  ·rename_i y r' h1 h2;simp only[zG] at h h1;subst h1 h;rw[KH h2 λc hc=>hg c (by simp[hc])];rfl
  ·simp at h
theorem AK{look:zj}{c:V}(h:H3 c=true):O3 (D4 look 1 c)=some c.strip:=by
 cases c<;>simp_all [H3,D4,O3,V.strip];obtain⟨rfl,rfl⟩:=h;simp[M4]
theorem Ty.Qiy{α:Type}(t:Ty α)(x:α):t.d x=(t.c x).map V.strip:=
 KH (t.vw (λ_=>none) x) λc hc=>AK (zN.1 (t.cd x) c hc)
theorem K9.strip{Qr:Nat->Nat}{w:World}{c:V}{v:Value}(h:K9 Qr w c v):K9 Qr w c.strip v:=by
 cases c<;>try exact h
 exact h.pG
theorem Ty.Qdl{α:Type}(t:Ty α){Qr:Nat->Nat}{w:World}{o:Bool}{z:Nat}{l:List α}{v:Value}(h:K9 Qr w (.sl o z (l.map t.c)) v):K9 Qr w (.sl false z (l.map t.d)) v:=by
 have e:l.map t.d=(l.map t.c).map (·.map V.strip):=by
  rw[qe];exact wM λx _=>t.Qiy x
 have hlen:(l.map t.d).length=(l.map t.c).length:=by simp
 generalize hg:l.map t.c=rows at h e hlen;cases h with
 | sl _ _ _ B o cap vs h1 h2 h3 h4=>
  have:=K9.sl (Qr:=Qr) (w:=w) false z (l.map t.d) B o cap vs (by grind) (by grind) (by grind) (λi c hc=>by
    rw[e,T7,wm,zJ] at hc;obtain⟨c0,k1,rfl⟩:=hc;exact(h4 i c0 k1).strip)
  grind
 | Zc _ _ a=>
  rw[e];exact .Zc false z a
theorem Nv{st:St}{b:Nat}{k:Qd}{α:Type}{t:Ty α}{l:List α}:∀(n:Nat) (c:V),(∀e,e∈XZ b k.rows n c->k.rows.take e.2.2=l.map t.c)->DJ st b k (IT b k.size (l.map t.d) n) c
 | 0,c,_=>λγ γ' w bs' u' h1 h2 map v hr=>by
  show Qz γ' w bs' u' .undef v;exact .undef v
 | n+1,c,he=>λγ γ' w bs' u' h1 h2 map v hr=>by
  have ih:=Nv (st:=st) (b:=b) (k:=k) (t:=t) (l:=l) n;have sub:∀(cs:List V),(∀e,e∈cs.flatMap (XZ b k.rows n)->k.rows.take e.2.2=l.map t.c)->∀(vs:List Value),vs.length=cs.length->(∀(i:Nat) (c:V) (v:Value),cs[i]?=some c->vs[i]?=some v->Qz γ w st.b st.u c v)->
    ∀(i:Nat) (c:V) (v:Value),(cs.map (IT b k.size (l.map t.d) n))[i]?=some c->vs[i]?=some v->Qz γ' w bs' u' c v:=λcs hcs vs hl hv i c v hc hx=>by
   rw[wm,zJ] at hc;obtain⟨c0,k1,rfl⟩:=hc;exact ih c0 (λe hee=>(by grind)) γ γ' w bs' u' h1 h2 map v (hv i c0 v k1 hx)
  cases c<;>simp only[IT]
  case ref b' off len=>
   split
   ·rename_i hb;have hb':b'=b:=by simpa using hb
    subst hb';split
    ·have hl:k.rows.take len=l.map t.c:=he (b',k.rows,len) (by simp[XZ]);have:=map (.ref b' 0 len) v hr;simp only[sQ,if_true,List.drop_zero] at this;rw[hl] at this;cases this with
     | data h=>exact .data (t.Qdl h)
    ·
     cases hr with
     | data h=>cases h
     | ref=>exact .Qp _ _ _ _ h1 h2 rfl
     | ZC=>exact .Qp _ _ _ _ h1 h2 rfl
     | ZY=>exact .Qp _ _ _ _ h1 h2 rfl
     | Qp _ _ _ _ _ _ h3=>exact .Qp _ _ _ _ h1 h2 h3
   ·rename_i hb;have:=map (.ref b' off len) v hr;simp_all [if_neg,sQ]
  case fn f x y=>
   obtain⟨fs,cs,rfl,l1,l2,p1,p2⟩:=hr.Hq;simp only[XZ] at he;exact .fn f _ _ fs cs (by simpa using l1) (by simpa using l2) (sub x (λe hee=>(by grind)) fs l1 p1) (sub y (λe hee=>(by grind)) cs l2 p2)
  case agg cs=>
   obtain⟨vs,rfl,l1,p1⟩:=hr.QD;exact .agg _ vs (by simpa using l1) (sub cs he vs l1 p1)
  case Qc cs=>
   obtain⟨vs,rfl,l1,p1⟩:=hr.WI;exact .Qc _ vs (by simpa using l1) (sub cs he vs l1 p1)
  all_goals exact map _ v hr
theorem EF{b z:Nat}{rows:List (List V)}{n:Nat}{c:V}(h:H3 c=true):IT b z rows (n+1) c=c:=by
 cases c<;>simp_all [H3,IT]
theorem oO(b z:Nat)(rows:List (List V)):∀(n:Nat) (c:V),(IT b z rows n c).QK=true->IT b z rows n c=c
 | 0,c,h=>by simp[IT,V.QK] at h
 | n+1,c,h=>by
  cases c<;>simp only[IT] at h ⊢;all_goals first|(simp[V.QK] at h;done)|skip
  grind [V.QK]
theorem Fe{u u':zl}(h:∀b,u b=true->u' b=true)(b z:Nat)(rows:List (List V)):∀(n:Nat) (c:V),okV u c=true->okV u' (IT b z rows n c)=true
 | 0,c,_=>rfl
 | n+1,c,hc=>by
  have ih:=Fe h b z rows n;have lst:∀l:List V,Mn u l=true->Mn u' (l.map (IT b z rows n))=true:=λl hl=>UG.2 λc hc=>by
   obtain⟨c0,h0,rfl⟩:=zP.1 hc;grind [UG]
  cases c<;>simp only[IT,okV,zL] at hc ⊢
  case ref b' off len=>
   split
   ·split
    ·rfl
    ·exact h _ hc
   ·exact h _ hc
  case ptr=>exact h _ hc
  case mp=>exact h _ hc
  case fn f x y=>grind
  case agg l=>exact lst l hc
  grind
theorem PS{G:zi}{d:D}{v:Zb}{vn:Nat}{next:D->C}{X:C}(h:Pn (.share v vn) d next=X)(hX:∀j,C.stuck j≠X)(he:ghE (.share v vn) d=List.replicate (vn+1) v.rF)(hd:d.Ok) :
  ∃d':D,next d'=X/\d'.Ok/\QU G d.st d'.st/\d'.n=d.n:=by
 simp only[Pn] at h;split at h
 rotate_left
 ·grind
 rename_i k hk;split at h
 rotate_left
 ·grind
 rename_i hdat;simp only[Kj,UP] at h;refine⟨_,h,?_⟩;simp only[ghE,hk] at he;have hdata:J9 k.rows:=by
  simp only[wi,wz,zM,zN] at hdat;rcases hdat with h1|h1
  ·exact hd.sy v.b h1 k hk
  ·exact λr hr c hc=>h1 r hr c hc
 let g:=IT v.b k.size (v.l.map v.ty.d) 6
 have rowsE:∀(n:Nat) (c:V) (e:Nat×List (List V)×Nat),e∈XZ v.b k.rows n c->e.2.1=k.rows:=by
  intro n;induction n with
  | zero=>grind [XZ]
  | succ n ih=>
   intro c e h;have fl:∀l:List V,e∈l.flatMap (XZ v.b k.rows n)->e.2.1=k.rows:=(by grind);cases c<;>simp only[XZ,wj] at h
   case ref b' off len=>
    grind
   case fn f x y=>
    grind
   case agg l=>exact fl _ h
   grind
 let E:=(d.ts.flatMap λp=>XZ v.b k.rows 6 p.2)++d.bs.flatMap λp=>match p.1==v.b || d.sy.contains p.1 with
   | true=>[]
   | false=>p.2.rows.flatMap λr=>r.flatMap (XZ v.b k.rows 6)
 have hE:E=List.replicate (vn+1) v.rF:=he;have allRows:∀e,e∈E->e.2.1=k.rows:=λe hm=>by
  rcases ww.1 hm with hm|hm
  ·grind
  ·obtain⟨p,_,hx⟩:=wR.1 hm;split at hx
   ·simp at hx
   ·obtain⟨r,_,hx⟩:=wR.1 hx;obtain⟨c,_,hx⟩:=wR.1 hx;grind
 have hlens:∀e,e∈E->k.rows.take e.2.2=v.l.map v.ty.c:=λe hm=>by
  have h1:=allRows e hm;rw[hE] at hm;obtain rfl:=(List.mem_replicate.1 hm).2;rw[<-h1];exact v.h
 have Kt:∀c,(∀e,e∈XZ v.b k.rows 6 c->e∈E)->DJ d.st v.b k g c:=(by grind [Nv])
 have goodData:∀c,H3 c=true->DJ d.st v.b k g c:=λc hc γ γ' w bs' u' h1 h2 map x hr=>by
  show Qz γ' w bs' u' (IT v.b k.size (v.l.map v.ty.d) (5+1) c) x;rw[EF hc];have:=map c x hr;cases c<;>first|exact this|simp[H3] at hc
 have e:(D.st ⟨d.n,d.ts.map (λp=>(p.1,IT v.b k.size (v.l.map v.ty.d) 6 p.2)),Fh d v k,v.b :: d.us,d.sy⟩)=d.st.shr v.b g:=by
  unfold D.st St.shr;simp only[D2,St.mk.injEq,true_and];refine⟨funext λi=>?_,funext λc=>?_,funext λc=>Ua c⟩
  ·rw[O8 (λp=>IT v.b k.size (v.l.map v.ty.d) 6 p.2)];cases d.ts.find? (λx=>x.1==i)<;>rfl
  ·unfold Fh;rw[O8];by_cases hc:c=v.b
   ·grind
   ·rw[if_neg hc,O9 (q:=λj=>!(j==v.b)) (by simpa using hc)];cases hf:d.bs.find? (λx=>x.1==c) with
    | none=>rfl
    | some p=>
     simp only[wQ,zG];split
     ·rename_i hs;have hdr:J9 p.2.rows:=hd.sy p.1 (by simpa using hs) p.2 (by rw[D.UI,(P9 hf).2,hf]);have:p.2.rows.map (·.map g)=p.2.rows:=by
       conv=>rhs;rw[<-List.map_id p.2.rows]
       refine wM λr hr=>?_;show r.map g=r
       conv=>rhs;rw[<-List.map_id r]
       exact wM λc hc=>EF (hdr r hr c hc)
      simp_all
     ·rfl
 have gs:=QU.shr (G:=G) (st:=d.st) hk hdata (g:=g) (λi=>by
   rw[D.Qh2];split
   ·grind
   ·exact λγ γ' w bs' u' _ _ _ v _=>.undef v)
  (λx q hx hq r hr c hc=>by
   rw[D.UI] at hq;split at hq
   ·rename_i p hp;simp only[zG] at hq;subst hq;obtain⟨hp1,rfl⟩:=P9 hp;cases hs:d.sy.contains p.1 with
    | true=>exact goodData c (hd.sy p.1 (by simpa using hs) p.2 (by rw[D.UI,hp]) r hr c hc)
    | false=>
     refine Kt c λe hm=>List.mem_append_right _ (wR.2 ⟨p,hp1,?_⟩);grind
   ·simp at hq) (oO _ _ _ 6)
 have mu:∀c,ZT d.us c=true->ZT (v.b :: d.us) c=true:=(by grind [Ua]);refine⟨⟨λi=>?_,λ{c q} hq=>?_,λx hx q hq=>?_⟩,by grind,rfl⟩
 ·rw[e];exact Fe mu _ _ _ 6 _ (hd.tmp i)
 ·rw[e] at hq;simp only[St.shr] at hq;split at hq
  ·simp at hq
  obtain⟨q0,h0,rfl⟩:=zJ.1 hq;obtain⟨h1,h2⟩:=hd.Zs h0;refine⟨mu _ h1,λr hr c hc=>?_⟩;obtain⟨r0,hr0,rfl⟩:=zP.1 hr;obtain⟨c0,hc0,rfl⟩:=zP.1 hc;grind [Fe]
 ·rw[e] at hq;simp only[St.shr] at hq;split at hq
  ·simp at hq
  obtain⟨q0,h0,rfl⟩:=zJ.1 hq;have hdr:=hd.sy x hx q0 h0;intro r hr c hc;obtain⟨r0,hr0,rfl⟩:=zP.1 hr;obtain⟨c0,hc0,rfl⟩:=zP.1 hc;have:=hdr r0 hr0 c0 hc0;grind [EF]
theorem PW{G:zi}{d:D}{b x j size:Nat}{next:D->C}{X:C}(h:Pn (.KQ b x j size) d next=X)(hX:∀j,C.stuck j≠X)(hd:d.Ok):∃d':D,next d'=X/\d'.Ok/\QU G d.st d'.st/\d'.n=d.n:=by
 simp only[Pn] at h;split at h
 rotate_left
 ·grind
 rename_i k hk hub hsy;simp only[Bool.or_eq_false_iff,Bool.not_eq_false',zM] at hub;obtain⟨hub,hM⟩:=hub;split at h
 rotate_left
 ·grind
 rename_i r rs hrows;split at h
 rotate_left
 ·grind
 rename_i hcell;refine⟨_,h,?_⟩;have hxb:x≠b:=λe=>by subst e;have:=(hd.Zs hk).1;grind
 have hsx:¬x∈d.sy:=by grind
 let d':D:={ d with bs:=(b,⟨size,true,[]⟩) :: (x,setCell k j (.ref b 0 0)) :: d.bs.filter (λp=>!(p.1==x)),us:=b :: d.us }
 have bb:d'.st.b b=some ⟨size,true,[]⟩:=by simp[D.UI,d']
 have bx:d'.st.b x=some (setCell k j (.ref b 0 0)):=by
  grind [D.UI,List.find?_cons_of_neg,List.find?_cons_of_pos]
 have bo:∀c,c≠b->c≠x->d'.st.b c=d.st.b c:=λc h1 h2=>by
  rw[D.UI,D.UI];simp only[d'];rw[List.find?_cons_of_neg (by simpa using λe=>h1 e.symm),List.find?_cons_of_neg (by simpa using λe=>h2 e.symm),O9 (q:=λj=>!(j==x)) (by simpa using h2)]
 have hbn:d.st.b b=none:=by
  cases hb:d.st.b b with
  | none=>rfl
  | some q=>have:=(hd.Zs hb).1;grind
 have hset:(setCell k j (.ref b 0 0)).rows=r.set j (.ref b 0 0) :: rs:=by simp[setCell,hrows]
 have mu:∀c,ZT d.us c=true->ZT (b :: d.us) c=true:=(by grind [Ua])
 have g2:QU G (d.st.Qj b ⟨size,true,[]⟩) d'.st:=by
  refine QU.cells rfl (funext λc=>?_) (λi=>Wk.refl _) λc=>?_
  ·exact Ua c
  ·by_cases hcb:c=b
   ·subst hcb;refine .inr ⟨⟨size,true,[]⟩,⟨size,true,[]⟩,by simp[St.Qj],bb,rfl,rfl,rfl,λi r' h=>by simp at h⟩
   ·by_cases hcx:c=x
    ·subst hcx;refine .inr ⟨k,setCell k j (.ref b 0 0),by simp[St.Qj,hcb,hk],bx,rfl,rfl,by grind,λi r' hr'=>?_⟩;rw[hset] at hr';rw[hrows];cases i with
     | zero=>
      simp only[qj,zG] at hr';subst hr';refine⟨r,rfl,by simp,λq c' hc'=>?_⟩;by_cases hq:q=j
      ·subst hq;have hlt:q < r.length:=(by grind);rw[List.getElem?_set_self hlt] at hc';simp only[zG] at hc';subst hc';refine⟨.Qu,hcell,λγ w v hv=>?_,(by grind)⟩;have:=hv.QI;subst this;exact .ZY b 0 ⟨size,true,[]⟩ bb hM rfl
      ·rw[List.getElem?_set_ne (λe=>hq e.symm)] at hc';exact⟨c',hc',Wk.refl _,λ_=>.inl rfl⟩
     | succ i=>
      simp only[List.getElem?_cons_succ] at hr';exact⟨r',by simpa using hr',rfl,λq c' hc'=>⟨c',hc',Wk.refl _,λ_=>.inl rfl⟩⟩
    ·cases hc:d.st.b c with
     | none=>grind [St.Qj]
     | some q=>
      exact .inr ⟨q,q,by simp[St.Qj,hcb,hc],by rw[bo c hcb hcx,hc],rfl,rfl,rfl,λi r' hr'=>⟨r',hr',rfl,λp c' hc'=>⟨c',hc',Wk.refl _,λ_=>.inl rfl⟩⟩⟩
 refine⟨⟨λi=>N2 mu _ (hd.tmp i),λ{c q} hq=>?_,λc hc q hq=>?_⟩,(QU.Qid size hub).trans g2,rfl⟩
 ·have hq':d'.st.b c=some q:=hq;by_cases hcb:c=b
  ·subst hcb;rw[bb] at hq';simp only[zG] at hq';subst hq';exact⟨by simp[ZT],λr hr=>by simp at hr⟩
  ·by_cases hcx:c=x
   ·subst hcx;rw[bx] at hq';simp only[zG] at hq';subst hq';obtain⟨h1,h2⟩:=hd.Zs hk;refine⟨mu _ h1,λr' hr' c' hc'=>?_⟩;rw[hset] at hr';simp only[zY] at hr';rcases hr' with rfl|hr'
    ·rcases List.mem_or_eq_of_mem_set hc' with hc'|rfl
     ·exact N2 mu _ (h2 r (by simp[hrows]) c' hc')
     ·simp[okV,ZT]
    ·exact N2 mu _ (h2 r' (by simp[hrows,hr']) c' hc')
   ·rw[bo c hcb hcx] at hq';obtain⟨h1,h2⟩:=hd.Zs hq';exact⟨mu _ h1,λr hr c hc=>N2 mu _ (h2 r hr c hc)⟩
 ·have hq':d'.st.b c=some q:=hq;by_cases hcb:c=b
  ·subst hcb;rw[bb] at hq';simp only[zG] at hq';subst hq';intro r hr;simp at hr
  ·have hcx:c≠x:=λe=>hsx (e▸hc);rw[bo c hcb hcx] at hq';exact hd.sy c hc q hq'
theorem Tw{u:zl}:∀(n:Nat) (e c:V),okV u c=true->okV u (X5 n e c)=true
 | 0,_,_,h=>h
 | n+1,e,c,h=>by
  have lst:∀(es cs:List V),Mn u cs=true->Mn u (Ym (X5 n) es cs)=true:=by
   intro es cs;induction cs generalizing es with
   | nil=>intro h;cases es<;>exact h
   | cons c cs ih=>
    intro h;cases es with
    | nil=>exact h
    | cons e es=>
     simp only[Ym,Mn,zL] at h ⊢;exact⟨Tw n e c h.1,ih es h.2⟩
  cases c<;>simp only[X5]<;>try exact h
  case Qu=>split<;>rfl
  case sl=>split<;>rfl
  case agg cs=>
   grind [okV]
  grind [okV]
theorem Tk{u:zl}:∀(es cs:List (List V)),(∀r,r∈cs->∀c,c∈r->okV u c=true)->∀r,r∈HU es cs->∀c,c∈r->okV u c=true
 | [],cs,h=>by cases cs<;>exact h
 | _ :: _,[],_=>(by grind [HU])
 | e :: es,c :: cs,h=>λr hr x hx=>by
  simp only[HU,zY] at hr;rcases hr with rfl|hr
  ·obtain⟨i,hi⟩:=List.getElem?_of_mem hx;obtain⟨y,h1,h2⟩:=Je _ _ _ _ _ hi;have hy:=h c (by simp) y (wd h1);rcases h2 with rfl|⟨e',rfl⟩
   ·exact hy
   grind [Tw]
  ·exact Tk es cs (by grind) r hr x hx
theorem TJ{G:zi}{d:D}{b:Nat}{es:List (List V)}{next:D->C}{X:C}(h:Pn (.tell b es) d next=X)(hX:∀j,C.stuck j≠X)(hd:d.Ok):∃d':D,next d'=X/\d'.Ok/\QU G d.st d'.st/\d'.n=d.n:=by
 simp only[Pn] at h;split at h
 rotate_left
 ·grind
 rename_i k hk hsy;simp only[UP] at h;have hsb:¬b∈d.sy:=by grind
 let d':D:={ d with bs:=(b,⟨k.size,k.Ql,HU es k.rows⟩) :: d.bs.filter (λp=>!(p.1==b)) }
 have bb:d'.st.b b=some ⟨k.size,k.Ql,HU es k.rows⟩:=by simp[D.UI,d']
 have bo:∀c,c≠b->d'.st.b c=d.st.b c:=λc h1=>by
  rw[D.UI,D.UI];grind
 refine⟨d',h,⟨λi=>hd.tmp i,λ{c q} hq=>?_,λc hc q hq=>?_⟩,QU.cells rfl rfl (λi=>Wk.refl _) λc=>?_,rfl⟩
 ·by_cases hcb:c=b
  ·subst hcb;rw[bb] at hq;simp only[zG] at hq;subst hq;obtain⟨h1,h2⟩:=hd.Zs hk;grind [Tk]
  ·rw[bo c hcb] at hq;exact hd.Zs hq
 ·have hcb:c≠b:=λe=>hsb (e▸hc);rw[bo c hcb] at hq;exact hd.sy c hc q hq
 ·by_cases hcb:c=b
  ·subst hcb;exact .inr ⟨k,_,hk,bb,rfl,rfl,WJ _ _⟩
  ·cases hc:d.st.b c with
   | none=>grind
   | some q=>exact .inr ⟨q,q,rfl,by grind,rfl,rfl,W5.same (λc=>EW.same c) _⟩
theorem TQ{G:zi}{d:D}{b t size:Nat}{next:D->C}{X:C}(h:Pn (.XC b t size) d next=X)(hX:∀j,C.stuck j≠X)(hd:d.Ok):∃d':D,next d'=X/\d'.Ok/\QU G d.st d'.st/\d'.n=d.n:=by
 simp only[Pn] at h;split at h
 rotate_left
 ·grind
 rename_i ht hu;simp only[Bool.or_eq_false_iff,Bool.not_eq_false',zM] at hu;obtain⟨hu,hM⟩:=hu;have mu:∀c,ZT d.us c=true->ZT (b :: d.us) c=true:=(by grind [Ua]);have e:(D.st { d with ts:=(t,.ref b 0 0) :: d.ts.filter (λx=>!(x.1==t)),bs:=(b,⟨size,true,[]⟩) :: d.bs,us:=b :: d.us })=(d.st.Qj b ⟨size,true,[]⟩).QG t (.ref b 0 0):=by
  unfold D.st St.Qj St.QG;simp only[D2,St.mk.injEq,true_and];grind
 refine⟨_,h,⟨λi=>?_,λ{c q} hq=>?_,λc hc q hq=>?_⟩,by rw[e];exact QU.pF size hM hu ht,rfl⟩
 ·rw[e];show okV _ (if i=t then _ else d.st.t i)=true;split
  ·simp[okV,ZT]
  ·exact N2 mu _ (hd.tmp i)
 ·rw[e] at hq;have hq':(if c=b then some (⟨size,true,[]⟩:Qd) else d.st.b c)=some q:=hq;split at hq'
  ·grind [Option.some.injEq,ZT]
  ·obtain⟨h1,h2⟩:=hd.Zs hq';grind [N2]
 ·rw[e] at hq;have hq':(if c=b then some (⟨size,true,[]⟩:Qd) else d.st.b c)=some q:=hq;split at hq'
  ·simp only[zG] at hq';subst hq';intro r hr;simp at hr
  ·exact hd.sy c hc q hq'
theorem F9{α:Type}{f:α->α}{l:List α}(h:∀x,x∈l->f x=x):l.map f=l:=by
 have:l.map f=l.map id:=wM λx hx=>h x hx;simp_all
theorem Dh{b m:Nat}:∀(n:Nat) (c:V),(∀e,e∈XZ b [] n c->e.2.2=m)->iF b m n c=c
 | 0,_,_=>rfl
 | n+1,c,h=>by
  cases c<;>simp only[iF]<;>try rfl
  case ref b' off len=>
   simp only[XZ] at h;split
   ·rename_i hb;rw[hb] at h;cases off with
    | zero=>simp_all
    | succ o=>rfl
   ·rfl
  case fn f x y=>
   simp only[XZ] at h;rw[F9 λc hc=>Dh n c λe he=>(by grind),F9 λc hc=>Dh n c λe he=>(by grind)]
  case agg l=>
   simp only[XZ] at h;rw[F9 λc hc=>Dh n c λe he=>(by grind)]
  case Qc l=>
   simp only[XZ] at h;rw[F9 λc hc=>Dh n c λe he=>(by grind)]
theorem mP{G:zi}{d:D}{b m:Nat}{ns:List Nat}{hn:∀n,n∈ns->n=m}{next:D->C}{X:C}(h:Pn (.len b m ns hn) d next=X)(he:ghE (.len b m ns hn) d=ns.map λn=>(b,[],n))(hd:d.Ok) :
  ∃d':D,next d'=X/\d'.Ok/\QU G d.st d'.st/\d'.n=d.n:=by
 simp only[Pn,Kj,UP] at h;have key:∀e,e∈ghE (.len b m ns hn) d->e.2.2=m:=(by grind);simp only[ghE] at key;have e1:(d.ts.map λp=>(p.1,iF b m 6 p.2))=d.ts:=F9 λp hp=>by
  rw[Dh 6 p.2 λe he=>(by grind)]
 have e2:d.bs.map (lnB d.sy b m)=d.bs:=F9 λp hp=>by
  have hk:∀e,e∈Qy2 d.sy b p->e.2.2=m:=λe he=>key e (by grind);unfold Qy2 at hk;unfold lnB;split
  ·rfl
  ·rename_i hs;rw[hs] at hk;have:p.2.rows.map (·.map (iF b m 6))=p.2.rows:=F9 λr hr=>F9 λc hc=>Dh 6 c λe he=>hk e (wR.2 (by grind));rw[this]
 rw[e1,e2] at h;exact⟨d,h,hd,λγ _ w hs=>⟨γ,hs,.refl γ w,.refl hs.u⟩,rfl⟩
theorem xM(b k:Nat):∀(n:Nat) (c:V),(R8 b k n c).QK=true->R8 b k n c=c
 | 0,c,h=>by simp[R8,V.QK] at h
 | n+1,c,h=>by
  cases c<;>simp only[R8] at h ⊢
  case ref b' off len=>
   grind [V.QK]
  case ptr b' i o=>grind [V.QK]
  case mp=>grind [V.QK]
  all_goals simp[V.QK] at h
theorem IM{u:zl}(b k:Nat):∀(n:Nat) (c:V),okV u c=true->okV u (R8 b k n c)=true
 | 0,c,_=>rfl
 | n+1,c,h=>by
  have lst:∀l:List V,Mn u l=true->Mn u (l.map (R8 b k n))=true:=λl hl=>UG.2 λc hc=>by
   obtain⟨c0,h0,rfl⟩:=zP.1 hc;exact IM b k n c0 (UG.1 hl c0 h0)
  cases c<;>simp only[R8]
  case ref b' off len=>
   split
   ·split
    ·exact h
    ·rfl
   ·exact h
  case ptr b' i o=>split;rfl;exact h
  case mp=>split;rfl;exact h
  case fn f x y=>
   simp_all [zL,okV]
  case agg l=>grind [okV]
  case Qc l=>grind [okV]
  all_goals exact h
theorem qY{G:zi}{d:D}{b k:Nat}{kb:Qd}{α:Type}{ty:Ty α}{l:List α}{next:D->C}{X:C}(h:Qjb d b kb ((l.drop k).map ty.c) k next=X)(hd:d.Ok)(hb:d.st.b b=some kb)(hlow:b < 1000000)(hzq:kb.size < J0)
  (hs:∀y,ty.c y=ty.d y) (hrows:kb.rows=l.map ty.c) (hk:k<=l.length):∃d':D,next d'=X/\d'.Ok/\QU G d.st d'.st/\d'.n=d.n:=by
 simp only[Qjb,Kj,UP] at h;refine⟨_,h,?_⟩;let g:V->V:=R8 b k 6;let d':D:=⟨d.n,d.ts.map λp=>(p.1,R8 b k 6 p.2),(b,⟨kb.size,kb.Ql,(l.drop k).map ty.c⟩) :: (d.bs.filter λp=>!(p.1==b)).map (Ht d.sy b k),d.us,b :: d.sy⟩;have hown:∀r,r∈kb.rows->∀c,c∈r->H3 c=true/\c.QK=false:=λr hr c hc=>by
  rw[hrows] at hr;refine⟨ty.data l r hr c hc,?_⟩;obtain⟨y,_,rfl⟩:=zP.1 hr;rw[hs y,<-ty.st y] at hc;obtain⟨c0,_,rfl⟩:=zP.1 hc;exact YD c0
 have gt:=QU.cut (G:=G) (n:=6) hb hzq (by grind) hlow hown (g:=g) (λi=>rfl) (by grind) (by grind [xM]);have hbt:∀q,d'.st.b q=if q=b then some ⟨kb.size,kb.Ql,(l.drop k).map ty.c⟩ else (d.bs.find? (λp=>p.1==q)).map λp=>(Ht d.sy b k p).2:=λq=>by
  show (match ((b,(⟨kb.size,kb.Ql,(l.drop k).map ty.c⟩:Qd)) :: (d.bs.filter λp=>!(p.1==b)).map (Ht d.sy b k)).find? (λp=>p.1==q) with|some p=>some p.2|none=>none)=_;by_cases h1:q=b
  ·subst h1;simp
  ·rw[if_neg h1,List.find?_cons_of_neg (by simpa using λe=>h1 e.symm)];have e1:Ht d.sy b k=λp:Nat×Qd=>(p.1,(Ht d.sy b k p).2):=funext (by grind [Ht]);rw[e1,O8 (λp=>(Ht d.sy b k p).2),O9 (q:=λi=>!(i==b)) (by simpa using h1)];cases d.bs.find? (λp=>p.1==q)<;>rfl
 have e:QU G (d.st.cut b k kb g) d'.st:=by
  refine QU.cells rfl rfl (λi=>?_) λq=>?_
  ·have:d'.st.t i=(d.st.cut b k kb g).t i:=by
    show (match (d.ts.map λp=>(p.1,R8 b k 6 p.2)).find? (λp=>p.1==i) with|some p=>p.2|none=>.undef)=R8 b k 6 (match d.ts.find? (λp=>p.1==i) with|some p=>p.2|none=>.undef);rw[O8 (λp=>R8 b k 6 p.2)];cases d.ts.find? (λp=>p.1==i)<;>rfl
   grind [Wk.refl]
  ·rw[hbt];show ((if q=b then some ({ kb with rows:=kb.rows.drop k }:Qd) else (d.st.b q).map λx=>({ x with rows:=x.rows.map (·.map g) }:Qd))=none/\_)\/_;by_cases h1:q=b
   ·right;refine⟨{ kb with rows:=kb.rows.drop k },⟨kb.size,kb.Ql,(l.drop k).map ty.c⟩,by simp[St.cut,h1],by simp[h1],rfl,rfl,?_⟩;rw[hrows,<-List.map_drop];exact W5.same (λc=>EW.same c) _
   ·rw[if_neg h1];have eb:(d.st.cut b k kb g).b q=(d.st.b q).map λx=>({ x with rows:=x.rows.map (·.map g) }:Qd):=by simp[St.cut,h1]
    rw[D.UI];cases hf:d.bs.find? (λp=>p.1==q) with
    | none=>grind
    | some p=>
     right;have hq:d.st.b q=some p.2:=by rw[D.UI,hf]
     refine⟨{ p.2 with rows:=p.2.rows.map (·.map g) },(Ht d.sy b k p).2,by grind,by simp[h1],?_⟩;unfold Ht;split
     ·rename_i hsy;refine⟨rfl,rfl,?_⟩;have hdat:=hd.sy p.1 (by grind) p.2 (by grind);have:p.2.rows.map (·.map g)=p.2.rows:=by
       refine F9 λr hr=>F9 λc hc=>IE (hdat r hr c hc)
      rw[this];exact W5.same (λc=>EW.same c) _
     ·exact⟨rfl,rfl,W5.same (λc=>EW.same c) _⟩
 refine⟨⟨λi=>?_,λ{q p} hq=>?_,λq hq p hp=>?_⟩,gt.trans e,rfl⟩
 ·show okV (ZT d.us) (match (d.ts.map λp=>(p.1,R8 b k 6 p.2)).find? (λp=>p.1==i) with|some p=>p.2|none=>.undef)=true;rw[O8 (λp=>R8 b k 6 p.2)];have:=hd.tmp i;grind [D.Qh2,IM]
 ·have hq':d'.st.b q=some p:=hq;rw[hbt] at hq';by_cases h1:q=b
  ·rw[if_pos h1] at hq';simp only[zG] at hq';subst hq';refine⟨by rw[h1];exact(hd.Zs hb).1,(by grind [R1])⟩
  ·rw[if_neg h1] at hq';obtain⟨x,hx,rfl⟩:=zJ.1 hq';have hq2:d.st.b q=some x.2:=by rw[D.UI,hx]
   obtain⟨o1,o2⟩:=hd.Zs hq2;refine⟨o1,λr hr c hc=>?_⟩;unfold Ht at hr;split at hr
   ·grind
   ·obtain⟨r0,hr0,rfl⟩:=zP.1 hr;obtain⟨c0,hc0,rfl⟩:=zP.1 hc;grind [IM]
 ·have hp':d'.st.b q=some p:=hp;rw[hbt] at hp';by_cases h1:q=b
  ·rw[if_pos h1] at hp';simp only[zG] at hp';subst hp';exact ty.data _
  ·rw[if_neg h1] at hp';obtain⟨x,hx,rfl⟩:=zJ.1 hp';have hq2:d.st.b q=some x.2:=by rw[D.UI,hx]
   have hqs:q∈d.sy:=by
    grind
   have:d.sy.contains x.1=true:=by grind
   unfold Ht;rw[this];exact hd.sy q hqs x.2 hq2
theorem eW{G:zi}{d:D}{w:bG}{next:D->C}{X:C}(h:Pn w d next=X)(hX:∀j,C.stuck j≠X)(he:ghE w d=w.eqs)(hd:d.Ok):∃d':D,next d'=X/\d'.Ok/\QU G d.st d'.st/\d'.n=d.n:=by
 cases w with
 | XC d t size=>exact TQ h hX hd
 | KQ d b j size=>exact PW h hX hd
 | Qb a b=>exact uI h hX hd
 | share v n=>exact PS h hX he hd
 | drop l=>exact VC h hX hd
 | tell b es=>exact TJ h hX hd
 | len b m ns hn=>exact mP h he hd
theorem ID{u:zl}:∀(n:Nat) (e c:V),okV u (X5 n e c)=true->okV u c=true
 | 0,_,_,h=>h
 | n+1,e,c,h=>by
  have lst:∀(es cs:List V),Mn u (Ym (X5 n) es cs)=true->Mn u cs=true:=by
   intro es cs;induction cs generalizing es with
   | nil=>intro _;rfl
   | cons c cs ih=>
    intro h;cases es with
    | nil=>exact h
    | cons e es=>
     simp only[Ym,Mn,zL] at h ⊢;exact⟨ID n e c h.1,ih es h.2⟩
  cases c<;>simp only[X5] at h<;>try exact h
  case Qu=>rfl
  case sl=>rfl
  case agg cs=>
   grind [okV]
  grind [okV]
theorem RM{u:zl}:∀(es cs:List (List V)),(∀r,r∈HU es cs->∀c,c∈r->okV u c=true)->∀r,r∈cs->∀c,c∈r->okV u c=true
 | [],cs,h=>by cases cs<;>exact h
 | _ :: _,[],_=>λr hr=>by simp at hr
 | e :: es,c :: cs,h=>λr hr=>by
  simp only[zY] at hr;rcases hr with rfl|hr
  ·have h0:Mn u (Ym (X5 8) e r)=true:=(by grind [UG,HU])
   have:∀(es cs:List V),Mn u (Ym (X5 8) es cs)=true->Mn u cs=true:=by
    intro es cs;induction cs generalizing es with
    | nil=>intro _;rfl
    | cons c cs ih=>
     intro h;cases es with
     | nil=>exact h
     | cons e es=>
      simp only[Ym,Mn,zL] at h ⊢;grind [ID]
   grind [UG]
  ·exact RM es cs (by grind [HU]) r hr
def Hy(x:Ext)(n:Nat):Exit->St->Prop:=λe s=>e=x.ex/\s.n=n/\KO x s=x.ts/\KL x s=x.bs.map λp=>(p.1,some p.2)
theorem ZD{G:zi}{x:Ext}{s:St}(hok:x.ok=true)(ht:KO x s=x.ts)(hb:KL x s=x.bs.map λp=>(p.1,some p.2)):QU G s (x.D s.n).st:=by
 simp only[Ext.ok,zL,zN] at hok;have htp:∀p,p∈x.ts->X5 8 p.2 (s.t p.1)=p.2:=λp hp=>by
  have:=List.map_inj_left.1 (show x.ts.map (λp=>(p.1,X5 8 p.2 (s.t p.1)))=x.ts.map (λp=>(p.1,p.2)) from ht.trans (by simp)) p hp;grind
 have hbp:∀p,p∈x.bs->xO x.dt p.1 p.2 (s.b p.1)=some p.2:=λp hp=>by
  have:=List.map_inj_left.1 hb p hp;grind
 have hbs:∀p,p∈x.bs->∃k,s.b p.1=some k/\k.size=p.2.size/\k.Ql=p.2.Ql/\(p.1∈x.dt->k=p.2)/\(¬p.1∈x.dt->HU p.2.rows k.rows=p.2.rows):=λp hp=>by
  have:=hbp p hp;unfold xO at this;split at this
  ·grind
  ·rename_i hd;obtain⟨k,h1,h2⟩:=zJ.1 this;grind
 let kOf:Nat×Qd->Qd:=λp=>match s.b p.1 with|some k=>k|none=>p.2
 have hkOf:∀p,p∈x.bs->s.b p.1=some (kOf p):=(by grind)
 let s0:=D2 s.n (x.ts.map λp=>(p.1,s.t p.1)) (x.bs.map λp=>(p.1,kOf p)) x.us
 have F:N7 s s0:=by
  refine VO rfl ?_ ?_ ?_ ?_ ?_
  ·simp_all
  ·refine zN.2 λq hq=>?_;obtain⟨p,hp,rfl⟩:=zP.1 hq;refine ID 8 p.2 _ ?_;show okV _ (X5 8 p.2 (s.t p.1))=true;rw[htp p hp];exact hok.1 p hp
  ·grind [List.map_map,List.map_congr_left]
  ·refine zN.2 λq hq=>?_;obtain⟨p,hp,rfl⟩:=zP.1 hq;show ZT x.us p.1=true;simp only[ZT,Ext.us,wi,wz,zM];grind
  ·intro q hq r hr c hc;obtain⟨p,hp,rfl⟩:=zP.1 hq;obtain⟨k,h1,h2,h3,h4,h5⟩:=hbs p hp;have hk:kOf p=k:=by grind
   simp only[hk] at hr;by_cases hd:p.1∈x.dt
   ·rw[h4 hd] at hr;exact R1 (x.JN p hp hd r hr c hc) _
   ·have:=hok.2 p hp;simp only[Mv,wi,wz,zM,zN] at this;have hall:=this.resolve_left hd;exact RM p.2.rows k.rows (by rw[h5 hd];exact hall) r hr c hc
 refine(QU.forget F).trans (QU.cells rfl rfl (λi=>?_) λb=>?_)
 ·show Wk _ _ (s0.t i) ((D2 s.n x.ts x.bs x.us).t i);simp only[s0,Fy];rw[O8 (λp=>s.t p.1)];cases hf:x.ts.find? (λp=>p.1==i) with
  | none=>exact Wk.refl _
  | some p=>
   simp only[wQ];have:=htp p (P9 hf).1;grind [Th]
 ·show (s0.b b=none/\(D2 s.n x.ts x.bs x.us).b b=none)\/_;simp only[s0,Mu];rw[O8 kOf];cases hf:x.bs.find? (λp=>p.1==b) with
  | none=>grind
  | some p=>
   simp only[wQ];obtain⟨k,h1,h2,h3,h4,h5⟩:=hbs p (P9 hf).1;have hk:kOf p=k:=by grind
   rw[hk];refine .inr ⟨k,p.2,rfl,?_,h2.symm,h3.symm,?_⟩
   ·show (D2 s.n x.ts x.bs x.us).b b=_;rw[Mu,hf]
   ·by_cases hd:p.1∈x.dt
    ·rw[h4 hd];exact⟨rfl,λi r' h=>⟨r',h,rfl,λj c' hc=>⟨c',hc,Wk.refl _,λ_=>.inl rfl⟩⟩⟩
    ·have:=WJ (bs:=(x.D s.n).st.b) (u:=(x.D s.n).st.u) p.2.rows k.rows;grind
end Go.EV
namespace Go.EV
open Go
section
variable {P:Program} {G:zi}
def Rel(_P:Program)(G:zi)(Q:Exit->St->Prop)(e:Exit)(st:St):Prop:=
 ∀(fx:Fx) (γ:Gh) (a:Act) (w:World),Qs G γ st a.tmps w->a.defers=fx.ds->L7 G fx γ st w Q e a w
theorem Rel.of{Q:Exit->St->Prop}{e:Exit}{st:St}(h:Q e st):Rel P G Q e st:=λ_ γ _ w hs hd=>⟨st,γ,hs,⟨.refl γ w,.refl hs.u⟩,.of hd,h⟩
theorem Rel.mono{Q Q':Exit->St->Prop}{e e':Exit}{st:St}(h:Rel P G Q e st)(hq:∀s,Q e s->Q' e' s):Rel P G Q' e' st:=λfx γ a w hs hd=>by
 obtain⟨st',γ',h1,h2,h3,h4⟩:=h fx γ a w hs hd;exact⟨st',γ',h1,h2,h3,hq _ h4⟩
theorem Rel.forget{Q:Exit->St->Prop}{e:Exit}{st st':St}(f:N7 st st')(h:Rel P G Q e st'):Rel P G Q e st:=λfx γ a w hs hd=>
 (h fx γ a w (f.Nc hs) hd).grow ⟨.refl γ w,f.Ue hs⟩
theorem Rel.ghost{Q:Exit->St->Prop}{e:Exit}{st st':St}(g:QU G st st')(h:Rel P G Q e st'):Rel P G Q e st:=λfx γ a w hs hd=>by
 obtain⟨γ',h1,h2,h3⟩:=g γ a.tmps w hs;exact(h fx γ' a w h1 hd).grow ⟨h2,h3⟩
theorem TV.rel{c:Code}{st:St}{Q Q':Exit->St->Prop}(h:TV P G c st Q')(hq:∀e s,Q' e s->Rel P G Q e s):TV P G c st Q:=λfx γ a w hs hd=>
 wpIn_mono (h fx γ a w hs hd) λe a' w' hl=>by
  obtain⟨st',γ',h1,h2,h3,h4⟩:=hl;exact(hq e st' h4 ⟨fx.ro,a'.defers,fx.mx⟩ γ' a' w' h1 rfl).Lf h2 h3
theorem TV.Qh7{st:St}{Q:Exit->St->Prop}(h:Rel P G Q .normal st):TV P G .skip st Q:=λfx γ a w hs hd=>wpIn_skip (h fx γ a w hs hd.1)
theorem TV.Qy6{l:Nat}{st:St}{Q:Exit->St->Prop}(h:Rel P G Q .normal st):TV P G (.label l) st Q:=λfx γ a w hs hd=>wpIn_label (h fx γ a w hs hd.1)
theorem TV.Qeu{id:Nat}{st:St}{Q:Exit->St->Prop}(h:Rel P G Q (.exit id) st):TV P G (.exit id) st Q:=λfx γ a w hs hd=>wpIn_exit (h fx γ a w hs hd.1)
theorem TV.Qdo{st:St}{Q:Exit->St->Prop}(h:Rel P G Q .ret st):TV P G .ret st Q:=λfx γ a w hs hd=>wpIn_ret (h fx γ a w hs hd.1)
def Pe(P:Program)(G:zi)(c:Code)(st:St)(Q:Exit->St->Prop):Prop:=
 ∀(fx:Fx) (γ:Gh) (a:Act) (w:World),Qs G γ st a.tmps w->UE fx γ a.defers w->GN fx.ro P c (L7 G fx γ st w Q) a w
theorem TV.sG{c:Code}{st:St}{Q:Exit->St->Prop}(h:TV P G c st (DW (λs=>Pe P G c s Q) Q)):∀(fx:Fx) (γ:Gh) (a:Act) (w:World),Qs G γ st a.tmps w->UE fx γ a.defers w->CW fx.ro P c (Exit.then (GN fx.ro P c (L7 G fx γ st w Q)) (L7 G fx γ st w Q)) a w:=λfx γ a w hs hd=>
 wpIn_mono (h fx γ a w hs hd) λe a' w' hl=>by
  obtain⟨st',γ',h1,h2,h3,h4⟩:=hl;cases e with
  | normal=>exact qZ (h4 ⟨fx.ro,a'.defers,fx.mx⟩ γ' a' w' h1 (hd.step h2.1)) λ_ _ _ hl=>hl.Lf h2 h3
  | _=>exact⟨st',γ',h1,h2,h3,h4⟩
theorem TV.Im{c:Code}{st:St}{Q:Exit->St->Prop}(h:TV P G c st (DW (λs=>Pe P G c s Q) Q)):TV P G (.loop c) st Q:=λfx γ a w hs hd=>El (TV.sG h fx γ a w hs hd)
theorem Pe.once{c:Code}{st:St}{Q:Exit->St->Prop}(h:TV P G c st (DW (λs=>Pe P G c s Q) Q)):Pe P G c st Q:=λfx γ a w hs hd=>Ls (TV.sG h fx γ a w hs hd)
def noGoto(Q:Exit->St->Prop):Exit->St->Prop
 | .goto _,_=>False
 | e,st=>Q e st
def Qx(P:Program)(G:zi)(Q:Exit->St->Prop):List Kf->Exit->St->Prop
 | []=>Q
 | .seq y :: K=>DW (λst=>TV P G y st (Qx P G Q K)) (Qx P G Q K)
 | .block id :: K=>Yw id (Qx P G Q K)
 | .scope :: K=>noGoto (Qx P G Q K)
 | .lp c :: K=>DW (λst=>Pe P G c st (Qx P G Q K)) (Qx P G Q K)
def B3(P:Program){ρ:Type}(F:YE ρ)(r:ρ)(n:Nat):Exit->St->Prop:=
 match F with
 | .fn rs res outs=>λe s=>∃v0,X5 8 (res r) v0=res r/\Pl P rs v0 (Qm (outs r)) e s
 | .FB E=>Hy (E r) n
 | .reg _ _=>λ_ _=>False
 | .qI S E=>match r with
  | .inl y=>λe s=>I6 e=true/\Hy (S y) n e s
  | .inr z=>λe s=>I6 e=false/\Hy (E z) n e s
 | .rE rs res outs ex Zj=>match r with
  | .inl r=>λe s=>∃v0,X5 8 (res r) v0=res r/\Pl P rs v0 (Qm (outs r)) e s
  | .inr z=>λe s=>e=ex z/\∀b k,Qm (Zj z) b=some k->s.b b=some k
def IC(P:Program)(G:zi)(Q:Exit->St->Prop)(cur:Code⊕Exit)(K:List Kf)(st:St):Prop:=
 match cur with
 | .inl c=>TV P G c st (Qx P G Q K)
 | .inr e=>Rel P G (Qx P G Q K) e st
def Tf(rec:Rec P G):Prop:=
 ∀(ρ:Type) (F:YE ρ) (g:T P G ρ) (cur:Code⊕Exit) (K:List Kf) (d:D) (r:ρ),d.Ok->rec ρ F g cur K d=g.expect F->g.run=some r->IC P G (B3 P F r d.n) cur K d.st
section
variable {kp:List Nat} {rec:Rec P G} (hm:P.follows .mixedOrders=true) (hrec:Tf rec) {ρ:Type} {F:YE ρ} {g:T P G ρ} {K:List Kf} {d:D} {r:ρ}
theorem Wc{e:Exit}{x:Ext}(h:Iv e x d=Wt x.ex x):Hy x d.n e d.st:=by
 simp only[Iv,Wt,C.fin.injEq,true_and,zG] at h;exact⟨h.1,rfl,h.2.1,h.2.2⟩
theorem dM{e:Exit}(h:fin P G F g e d=g.expect F)(hr:g.run=some r):B3 P F r d.n e d.st:=by
 cases g<;>simp only[fin] at h<;>try exact absurd h (Z6 _ _ _)
 case done r'=>
  simp only[T.run,zG] at hr;subst hr;cases F with
  | fn rs res outs=>
   have key:(e=.normal\/e=.ret)->C.fin ((F1 P d.st rs).map (X5 8 (res r'))) none [] ((outs r').map λp=>(p.1,d.st.b p.1))=T.expect (YE.fn rs res outs) (T.done (P:=P) (G:=G) r')->B3 P (YE.fn rs res outs) r' d.n e d.st:=by
    intro he h;simp only[T.expect,C.fin.injEq,true_and] at h;obtain⟨v0,h0,h1⟩:=zJ.1 h.1;refine⟨v0,h1,he,h0,λb k hk=>?_⟩;have hmem:=P7 hk;grind [List.map_inj_left]
   grind [T.expect]
  | FB E=>exact Wc (by simpa[T.expect] using h)
  | rE rs res outs ex Zj=>
   cases r' with
   | inl y=>
    have key:(e=.normal\/e=.ret)->C.fin ((F1 P d.st rs).map (X5 8 (res y))) none [] ((outs y).map λp=>(p.1,d.st.b p.1))=C.fin (some (res y)) none [] ((outs y).map λp=>(p.1,some p.2))->∃v0,X5 8 (res y) v0=res y/\Pl P rs v0 (Qm (outs y)) e d.st:=by
     intro he h;simp only[C.fin.injEq,true_and] at h;obtain⟨v0,h0,h1⟩:=zJ.1 h.1;refine⟨v0,h1,he,h0,λb k hk=>?_⟩;have hmem:=P7 hk;grind [List.map_inj_left]
    simp only at h;split at h
    ·exact key (.inl rfl) (by simpa[T.expect] using h)
    ·exact key (.inr rfl) (by simpa[T.expect] using h)
    ·simp[T.expect] at h
   | inr z=>
    simp only[T.expect,C.fin.injEq,true_and,zG] at h;refine⟨h.1,λb k hk=>?_⟩;have hmem:=P7 hk;grind [List.map_inj_left]
  | reg ts E=>exact absurd h (Z6 _ _ _)
  | qI S E=>
   cases r' with
   | inl y=>
    simp only at h;split at h
    ·rename_i hn;exact⟨hn,Wc (by simpa[T.expect] using h)⟩
    grind [Z6,absurd]
   | inr z=>
    simp only at h;split at h
    ·exact absurd h (Z6 _ _ _)
    ·rename_i hn;exact⟨hn,Wc (by simpa[T.expect] using h)⟩
theorem JH{x:Ext}{n:Nat}(hok:x.ok=true):(x.D n).Ok:=by
 have hok':=hok;simp only[Ext.ok,zL,zN] at hok';refine D.Ok.mY (λp hp=>hok'.1 p hp) (λp hp=>⟨?_,λr hr c hc=>?_⟩) (λb hb k hk=>?_)
 ·simp only[ZT,Ext.D,Ext.us,wi,wz,zM];exact .inl (zP.2 ⟨p,hp,rfl⟩)
 ·have:=hok'.2 p hp;simp only[Mv,wi,wz,zM,zN] at this;rcases this with h1|h1
  ·exact R1 (x.JN p hp h1 r hr c hc) _
  ·exact h1 r hr c hc
 ·unfold D.st at hk;rw[Mu] at hk;split at hk
  ·rename_i p hp;simp only[zG] at hk;subst hk;obtain⟨h1,h2⟩:=P9 hp;exact x.JN p h1 (by rw[h2];exact hb)
  ·simp at hk
theorem Jh{e:Exit}(h:I6 e=false):e≠.normal:=by grind [I6]
theorem JG{e:Exit}(h:I6 e=true):e=.normal:=by grind [I6]
theorem HO{A:St->Prop}{Q:Exit->St->Prop}{e:Exit}(h:e≠.normal)(s:St)(hq:Q e s):DW A Q e s:=by
 cases e<;>first|exact absurd rfl h|exact hq
include hrec in
theorem yV{e:Exit}(hd:d.Ok)(h:sxE rec F g e K d=g.expect F)(hr:g.run=some r):Rel P G (Qx P G (B3 P F r d.n) K) e d.st:=by
 unfold sxE at h;split at h
 ·exact Rel.of (dM h hr)
 ·rename_i y K;split at h
  ·rename_i hn;have:=hrec _ _ _ _ _ _ _ hd h hr;rw[JG hn];exact Rel.of (show TV P G y d.st _ from this)
  ·rename_i hn;have:Rel P G (Qx P G (B3 P F r d.n) K) e d.st:=hrec _ _ _ _ _ _ _ hd h hr;exact this.mono λs hq=>HO (Jh hn) s hq
 ·rename_i id K;split at h
  ·rename_i id';split at h
   ·rename_i he;have:Rel P G (Qx P G (B3 P F r d.n) K) .normal d.st:=hrec _ _ _ _ _ _ _ hd h hr;refine this.mono λs hq=>?_;show Yw id _ (.exit id') s;simp_all [if_pos,Yw]
   ·rename_i he;have:Rel P G (Qx P G (B3 P F r d.n) K) (.exit id') d.st:=hrec _ _ _ _ _ _ _ hd h hr;refine this.mono λs hq=>?_;show Yw id _ (.exit id') s;simp_all [if_neg,Yw]
  ·rename_i he;have:Rel P G (Qx P G (B3 P F r d.n) K) e d.st:=hrec _ _ _ _ _ _ _ hd h hr;refine this.mono λs hq=>?_;show Yw id _ e s;cases e<;>first|exact absurd rfl (he _)|exact hq
 ·rename_i K;split at h
  ·exact absurd h (Z6 _ _ _)
  ·rename_i he;have:Rel P G (Qx P G (B3 P F r d.n) K) e d.st:=hrec _ _ _ _ _ _ _ hd h hr;refine this.mono λs hq=>?_;show noGoto _ e s;cases e<;>first|exact absurd rfl (he _)|exact hq
 ·rename_i c K;split at h
  ·rename_i hn;have:=hrec _ _ _ _ _ _ _ hd h hr;rw[JG hn];exact Rel.of (show Pe P G c d.st _ from Pe.once this)
  ·rename_i hn;have:Rel P G (Qx P G (B3 P F r d.n) K) e d.st:=hrec _ _ _ _ _ _ _ hd h hr;exact this.mono λs hq=>HO (Jh hn) s hq
omit hrec hm in
theorem nW{p:Y6}{x:List Loc×List Wr}{y:Wr}{i:Nat}(hx:x∈p)(hy:y∈x.2)(e:y.loc=.t i):i∈p.PU:=by
 refine wR.2 ⟨x,hx,List.mem_filterMap.2 ⟨y,hy,?_⟩⟩;cases y with
 | t j c=>grind [Loc.t.injEq,Wr.loc]
 | b j k=>simp[Wr.loc] at e
theorem nK{p:Y6}{x:List Loc×List Wr}{y:Wr}{i:Nat}(hx:x∈p)(hy:y∈x.2)(e:y.loc=.b i):i∈p.Xu:=by
 refine wR.2 ⟨x,hx,List.mem_filterMap.2 ⟨y,hy,?_⟩⟩;cases y with
 | b j k=>grind [Loc.b.injEq,Wr.loc]
 | t j c=>simp[Wr.loc] at e
theorem Hb{α:Type}(l:List (Nat×α))(f:zl)(i:Nat):(l.filter λx=>f x.1).find? (λp=>p.1==i)=if f i then l.find? (λp=>p.1==i) else none:=by
 grind
theorem At{P:Program}{G:zi}{ops:Array Oper}{ip:Nat}{st0:St}:∀{m:Nat} {p:Y6} {s:St} {p':Y6},
  Av P G ops ip (List.range' p.length m) s p=some p'->
  (s=H7 p st0 p.length/\∀j,j < p.length->j≠ip->((Jv ops.toList).getD j 0).testBit ip=false->A7 P G ops j (H7 p st0 j) (p.rs j) (p.ws j))->ip < p.length->
  p'.length=p.length+m/\True/\(∀j,j < p.length+m->j≠ip->((Jv ops.toList).getD j 0).testBit ip=false->A7 P G ops j (H7 p' st0 j) (p'.rs j) (p'.ws j))/\(∀j,j<=p.length->H7 p' st0 j=H7 p st0 j)/\∀j,j < p.length->p'[j]?=p[j]?
 | 0,p,s,p',h,hs,_=>by
  obtain rfl:p=p':=by simpa[Av] using h
  exact⟨rfl,trivial,hs.2,λ_ _=>rfl,λ_ _=>rfl⟩
 | m+1,p,s,p',h,hs,hip=>by
  rw[List.range'_succ] at h;have next:∀{s1:St} {x:List Loc×List Wr},Av P G ops ip (List.range' (p.length+1) m) s1 (p++[x])=some p'->s1=(H7 p st0 p.length).app x.2->(((Jv ops.toList).getD p.length 0).testBit ip=false->A7 P G ops p.length (H7 p st0 p.length) x.1 x.2)->
    p'.length=p.length+(m+1)/\True/\(∀j,j < p.length+(m+1)->j≠ip->((Jv ops.toList).getD j 0).testBit ip=false->A7 P G ops j (H7 p' st0 j) (p'.rs j) (p'.ws j))/\(∀j,j<=p.length->H7 p' st0 j=H7 p st0 j)/\∀j,j < p.length->p'[j]?=p[j]?:=by
   intro s1 x h1 h2 h3;have hl:(p++[x]).length=p.length+1:=by simp
   rw[<-hl] at h1;have:=At h1 ⟨by rw[h2];exact(MQ p x st0).symm,λj hj hne hw=>by
    by_cases hj':j < p.length
    ·have e1:(p++[x]).rs j=p.rs j/\(p++[x]).ws j=p.ws j:=by
      unfold Y6.rs Y6.ws;rw[wP,wP,wD hj'];exact⟨rfl,rfl⟩
     grind [X1]
    ·obtain rfl:j=p.length:=by omega
     have e1:(p++[x]).rs p.length=x.1/\(p++[x]).ws p.length=x.2:=by
      unfold Y6.rs Y6.ws;rw[wP,List.getElem?_concat_length];exact⟨rfl,rfl⟩
     rw[X1 _ _ _ _ (zQ _),e1.1,e1.2];exact h3 hw⟩ (by omega)
   obtain⟨a1,_,a3,a4,a5⟩:=this;rw[hl] at a1 a3;refine⟨by omega,trivial,λj hj=>a3 j (by omega),(by grind [X1]),(by grind)⟩
  simp only[Av] at h;split at h
  ·rename_i hw;exact next h (by rw[hs.1];rfl) (by grind)
  grind [Jn]
theorem Ei{d:D}{p:Y6}{s:St}(hd:d.Ok)(hn:s.n=d.n)(h:∀l,(∀x,x∈p->∀y,y∈x.2->y.loc≠l)->O5 s d.st l):N7 s (KG d p).st:=by
 have mu:∀b,ZT d.us b=true->(KG d p).st.u b=true:=λb hb=>by
  show ((p.Xu++d.us).contains b || Qw b)=true;simp only[ZT,wi,wz,zM,ww] at hb ⊢;grind
 have mono:∀c,okV (ZT d.us) c=true->okV (KG d p).st.u c=true:=λc hc=>N2 mu c hc;refine⟨hn.symm,λi=>?_,λb=>?_,(by grind [Jg,D.st,D2,Qw])⟩
 ·have e0:(KG d p).st.t i=(match (d.ts.filter λx=>!p.PU.contains x.1).find? (λp=>p.1==i) with|some p=>p.2|none=>V.undef):=rfl;rw[Hb d.ts (λi=>!p.PU.contains i)] at e0;by_cases hc:p.PU.contains i=true
  ·grind
  ·have hc':p.PU.contains i=false:=by simpa using hc
   rw[hc'] at e0;have e:s.t i=d.st.t i:=h (.t i) λx hx y hy e=>(by grind [nW]);refine .inr ⟨by rw[e0,e];rfl,by rw[e];exact mono _ (hd.tmp i)⟩
 ·have e0:(KG d p).st.b b=(match (d.bs.filter λx=>!p.Xu.contains x.1).find? (λp=>p.1==b) with|some p=>some p.2|none=>none):=rfl;rw[Hb d.bs (λi=>!p.Xu.contains i)] at e0;by_cases hc:p.Xu.contains b=true
  ·grind
  ·have hc':p.Xu.contains b=false:=by simpa using hc
   rw[hc'] at e0;have e:s.b b=d.st.b b:=(h (.b b) λx hx y hy e=>(by grind [nK])).1;refine .inr ⟨by rw[e0,e];rfl,λk hk=>?_⟩;rw[e] at hk;obtain⟨h1,h2⟩:=hd.Zs hk;grind
theorem xY{d:D}{p:Y6}(hd:d.Ok):(KG d p).Ok:=by
 have f:=Ei (p:=p) hd (s:=d.st) rfl λl _=>O5.refl _ l;refine D.Ok.Kz f λb hb k hk r hr c hc=>?_;rcases f.b b with h|⟨h,_⟩
 ·grind
 ·rw[h] at hk;exact hd.sy b hb k hk r hr c hc
include hrec hm in
theorem OF{id:Nat}{ops:Array Oper}{draw:Bool}(hd:d.Ok)(h:cU kp rec F id ops draw g K d=g.expect F)(hr:g.run=some r):TV P G (.region id ops draw) d.st (Qx P G (B3 P F r d.n) K):=by
 rcases MP h hr hd.sy with⟨g',s,p,sy',x1,x2,x3,x4,x5,x6⟩|⟨v,g',sy',p,R,W,x1,x2,x3,x4,x5,x6⟩
 ·split at x1
  ·rename_i hdr;obtain⟨d',y1,y2,y3,y4⟩:=Wu x1 (λj=>Z6 F g' j) hd x5 x3;have hq:Rel P G (Qx P G (B3 P F r d'.n) K) .normal d'.st:=hrec _ _ _ _ _ _ _ y2 y1 x2;rw[y4] at hq;refine TV.rel (Q':=λe s'=>e=.normal/\s'=s) (TV.Vj hm hdr x5 x6 ⟨rfl,rfl⟩) λe s' he=>?_;obtain⟨rfl,rfl⟩:=he;exact hq.forget y3
  grind [Z6,absurd]
 ·cases draw with
  | false=>
   obtain⟨d',y1,y2,y3,y4⟩:=Wu x1 (λj=>Z6 F g' j) hd (MQ p (R,W) d.st).symm x3;have hq:Rel P G (Qx P G (B3 P F r d'.n) K) (.panic v) d'.st:=hrec _ _ _ _ _ _ _ y2 y1 x2;rw[y4] at hq;refine TV.rel (Q':=λe s''=>e=.panic v/\s''=(H7 p d.st p.length).app W) (TV.Qhg x4 x5 (x6 _ rfl λl _=>O5.refl _ l) ⟨rfl,rfl⟩) λe s'' he=>?_;obtain⟨rfl,rfl⟩:=he;exact hq.forget y3
  | true=>
   simp only at x1;split at x1
   rotate_left
   ·exact absurd x1 (Z6 _ _ _)
   rename_i p' hw;split at x1
   rotate_left
   ·exact absurd x1 (Z6 _ _ _)
   rename_i hc;simp only[zL,Mc] at hc;have hlen:(p++[(R,W)]).length=p.length+1:=by simp
   rw[show (p++[(R,W)]).length - 1=p.length by simp] at hw;obtain⟨r1,r2,r3,r4,r5⟩:=At (st0:=d.st) (ip:=p.length) hw ⟨(MQ p (R,W) d.st).symm,λj hj hne _=>by
     have hj':j < p.length:=by omega
     rw[X1 _ _ _ _ (by omega)];have e1:(p++[(R,W)]).rs j=p.rs j/\(p++[(R,W)]).ws j=p.ws j:=by
      unfold Y6.rs Y6.ws;rw[wP,wP,wD hj'];exact⟨rfl,rfl⟩
     rw[e1.1,e1.2];exact x5 j hj'⟩ (by omega)
   have e2:∀i,i<=ops.size->p'.st (λj=>decide (j < i)) d.st ops.size=H7 p' d.st i:=λi hi=>by
    simp_all [UF,min]
   have hx:(R,W)∈p':=by
    grind
   have far:∀(D:zl) (l:Loc),(∀x,x∈p'->∀y,y∈x.2->y.loc≠l)->O5 ((p'.st D d.st ops.size).app W) d.st l:=λD l h=>by
    refine(O6 W _ (h (R,W) hx)).trans ?_;have key:∀n,O5 (p'.st D d.st n) d.st l:=λn=>by
     induction n with
     | zero=>exact O5.refl _ _
     | succ n ih=>
      simp only[Y6.st];split
      ·refine(O6 _ _ λy hy=>?_).trans ih;grind [List.mem_of_getElem?,Y6.ws]
      ·exact ih
    exact key _
   have fg:∀D:Nat->Bool,N7 ((p'.st D d.st ops.size).app W) (KG d p').st:=λD=>Ei hd (by rw[LY,Y6.jH];rfl) λl h=>far D l h;have hq:Rel P G (Qx P G (B3 P F r (KG d p').n) K) (.panic v) (KG d p').st:=hrec _ _ _ _ _ _ _ (xY hd) x1 x2;refine TV.rel (Q':=λe s''=>e=.panic v/\∃D:Nat->Bool,s''=(p'.st D d.st ops.size).app W) (TV.sV (ip:=p.length) (ex:=.panic v) (W:=W) hm hc.1 hc.2 (λi hi hne hw=>?_) (λh=>by omega) λ_=>⟨?_,λD=>⟨rfl,D,rfl⟩⟩) λe s'' he=>?_
   ·grind
   ·rw[e2 _ (by omega)];simp_all [wP,List.getElem?_concat_length,X1,zQ,Y6.rs]
   ·obtain⟨rfl,D,rfl⟩:=he;exact hq.forget (fg D)
theorem NM{ops:Array Oper}{draw:Bool}{ts:List Nat}{ε:Type}{E:ε->List V}{first:T P G ε}{e:ε}{s:St}{p:Y6}(h:Ss P G ops draw ts d first s p=first.expect (.reg ts E))(hr:first.run=some e) :
  ts.map s.t=E e/\(!draw || Mc ops p)=true/\(∀b,b∈p.Xu->∀x,x∈d.bs->x.1≠b)/\∀t,t∈p.PU->t∈ops.toList.filterMap (·.dst):=by
 unfold Ss at h;split at h
 ·rename_i r';simp only[T.run,zG] at hr;subst hr;split at h
  ·grind [C.Qjm.injEq,T.expect]
  grind [Z6,absurd]
 ·simp[T.run] at hr
 grind [Z6,absurd]
theorem qN{ts:List Nat}{vs:List V}{s:St}(h:ts.map s.t=vs):∀p,p∈ts.zip vs->s.t p.1=p.2:=by
 subst h;intro p hp;induction ts with
 | nil=>simp at hp
 | cons t ts ih=>
  grind [List.zip_cons_cons]
include hrec hm in
theorem yC{id:Nat}{ops:Array Oper}{draw:Bool}(hd:d.Ok)(h:sxR kp rec F id ops draw g K d=g.expect F)(hr:g.run=some r):TV P G (.region id ops draw) d.st (Qx P G (B3 P F r d.n) K):=by
 unfold sxR at h;split at h
 ·rename_i ε id' ts first E k
  split at h
  ·simp only[T.expect,C.bind.injEq,heq_eq_eq,true_and] at h;obtain⟨h1,h2⟩:=h;simp only[T.run] at hr;split at hr
   ·rename_i e he;have h3:=congrFun h2 e;split at h3
    ·rename_i hok;simp only[zL,zN,beq_iff_eq] at hok;rcases MP h1 he hd.sy with⟨g',s,p,sy',x1,x2,x3,x4,x5,x6⟩|⟨_,_,_,_,_,_,x1,_⟩
     rotate_left
     ·exact absurd x1 (Z6 _ _ _)
     obtain⟨y1,y2,y3,y4⟩:=NM x1 x2;have tmp:∀i,¬i∈ops.toList.filterMap (·.dst)->s.t i=d.st.t i:=(by grind [JS]);have fg:N7 s (Bs ops ts d (E e)).st:=by
      refine⟨?_,λi=>?_,λb=>?_,λb hb=>MC (Jg hb)⟩
      ·rw[x5,GM];rfl
      ·have e0:(Bs ops ts d (E e)).st.t i=(match (ts.zip (E e)++d.ts.filter λx=>!(ops.toList.filterMap (·.dst)).contains x.1&&!ts.contains x.1).find? (λp=>p.1==i) with|some p=>p.2|none=>.undef):=rfl;rw[e0,List.find?_append];cases hf:(ts.zip (E e)).find? (λp=>p.1==i) with
       | some x=>
        obtain⟨z1,z2⟩:=P9 hf;have z3:=qN y1 x z1;refine .inr ⟨by grind,?_⟩;rw[<-z2,z3];exact hok.1 x.2 (List.of_mem_zip z1).2
       | none=>
        simp only[Option.none_or];cases hw:(!(ops.toList.filterMap (·.dst)).contains i&&!ts.contains i) with
        | false=>grind
        | true=>
         rw[O9 (q:=λj=>!(ops.toList.filterMap (·.dst)).contains j&&!ts.contains j) hw];simp only[zL,wC,wz,decide_eq_false_iff_not] at hw;have e1:=tmp i hw.1;exact .inr ⟨by rw[e1];rfl,by rw[e1];exact hd.tmp i⟩
      ·have e0:(Bs ops ts d (E e)).st.b b=d.st.b b:=rfl;rw[e0];by_cases hw:b∈p.Xu
       ·grind [Mu,List.find?_eq_none,D.st]
       ·have e1:s.b b=d.st.b b:=by grind [JB]
        refine .inr ⟨by rw[e1],λk hk=>?_⟩;rw[e1] at hk;exact hd.Zs hk
     have ok':(Bs ops ts d (E e)).Ok:=D.Ok.Kz fg hd.sy;have hq:Rel P G (Qx P G (B3 P F r d.n) K) .normal (Bs ops ts d (E e)).st:=hrec _ _ _ _ _ (Bs ops ts d (E e)) _ ok' h3 hr;refine TV.rel (Q':=λe s'=>e=.normal/\s'=s) (TV.Vj hm y2 x5 x6 ⟨rfl,rfl⟩) λe s' he=>?_;obtain⟨rfl,rfl⟩:=he;exact hq.forget fg
    grind [Z6,absurd]
   ·simp at hr
  grind [OF]
 grind [OF]
end
end
structure Y4(w w1:World):Prop where
 size:w.heap.size<=w1.heap.size
 same:∀(B:Nat) (cs:Array Value) (e:TypeId) (fz:Nat×Nat),w.heap[B]?=some (.cells cs e fz)->w1.heap[B]?=some (.cells cs e fz)
 maps:∀(B:Nat) (es:Array MapEntry) (k:Nat),w.heap[B]?=some (.map es k)->w1.heap[B]?=some (.map es k)
theorem Y4.trans{a b c:World}(h:Y4 a b)(k:Y4 b c):Y4 a c:=⟨Nat.le_trans h.size k.size,λB cs e fz hb=>k.same B cs e fz (h.same B cs e fz hb),λB es c hb=>k.maps B es c (h.maps B es c hb)⟩
theorem Y4.row{w w1:World}(h:Y4 w w1){B:Nat}{cs:Array Value}{e:TypeId}(hr:D5 w B cs e):D5 w1 B cs e:=by
 obtain⟨fz,h1,h2⟩:=hr;exact⟨fz,h.same _ _ _ _ h1,h2⟩
theorem Hw{w:World}{B o:Nat}{v:Value}(h:cellAt w B o=some v):∃cs e fz,w.heap[B]?=some (.cells cs e fz):=by
 grind [cellAt,World.cell?]
theorem Y4.cell{w w1:World}(h:Y4 w w1){B o:Nat}{v:Value}(hc:cellAt w B o=some v):cellAt w1 B o=some v:=by
 obtain⟨cs,e,fz,hb⟩:=Hw hc;have:=h.same B cs e fz hb;grind [cellAt,World.cell?]
theorem Y4.room{w w1:World}(h:Y4 w w1){B n:Nat}(hr:JV w B n):JV w1 B n:=by
 obtain⟨cs,e,fz,h1,h2⟩:=hr;exact⟨cs,e,fz,h.same B cs e fz h1,h2⟩
theorem Y4.rep{w w1:World}(h:Y4 w w1){γ:Gh}{bs:zj}{u:zl}{c:V}{v:Value}(hr:Qz γ w bs u c v):Qz γ w1 bs u c v:=by
 induction hr with
 | data h1=>exact .data (h1.mono λB o v h1 h2=>⟨h1,h.cell h2⟩)
 | undef v=>exact .undef v
 | ref b off len B o cap k h1 h2 h3 h4 h5 h6 h7=>exact .ref b off len B o cap k h1 h2 h3 h4 (h.room h5) h6 h7
 | ZC b off B k h1 h6 h2=>exact .ZC b off B k h1 h6 h2
 | ZY b off k h1 h6 h2=>exact .ZY b off k h1 h6 h2
 | Qp b off len v h1 h2 h3=>exact .Qp b off len v h1 h2 h3
 | ptr b i off B o k h1 h2 h3=>exact .ptr b i off B o k h1 h2 h3
 | mp b B k h1 h2 h3=>exact .mp b B k h1 h2 h3
 | QX b v h1 h2 h3=>exact .QX b v h1 h2 h3
 | QH b i off v h1 h2 h3=>exact .QH b i off v h1 h2 h3
 | fn f first captured fs cs h1 h2 _ _ ih1 ih2=>exact .fn f first captured fs cs h1 h2 ih1 ih2
 | agg cells vs h1 _ ih=>exact .agg cells vs h1 ih
 | Qc cells vs h1 _ ih=>exact .Qc cells vs h1 ih
theorem Y4.right{w w1:World}(h:Y4 w w1){γ:Gh}{t:M3}{c:V}{v:Value}(hr:D6 γ w t c v):D6 γ w1 t c v:=by
 unfold D6 at hr ⊢;split at hr
 ·rcases hr with hr|⟨h1,cs,e,h2,h3⟩
  ·exact .inl hr
  ·exact .inr ⟨h1,cs,e,h.row h2,h3⟩
 ·trivial
theorem Y4.xT{w w1:World}(h:Y4 w w1){γ:Gh}{bs:zj}{u:zl}{b:Nat}{k:Qd}(hb:X3 γ w bs u b k):X3 γ w1 bs u b k:=by
 rcases hb with h0|hm|⟨hM,B,o,cs,e,a1,a2,a3,a4,a5,a6,a7,a8⟩
 ·exact .inl h0
 ·obtain⟨hM,B,es,clock,h1,h2,h3,h4,h5,h6,h7⟩:=hm;refine .inr (.inl ⟨hM,B,es,clock,h1,h2,h.maps _ _ _ h3,h4,h5,h6,λi c hc=>?_⟩);obtain⟨v,a1,a2,a3⟩:=h7 i c hc;exact⟨v,a1,h.rep a2,a3⟩
 ·refine .inr (.inr ⟨hM,B,o,cs,e,a1,a2,h.row a3,a4,a5,λi c hc=>?_,a7,a8⟩);obtain⟨x,b1,b2,b3,b4⟩:=a6 i c hc;exact⟨x,b1,h.rep b2,b3,h.right b4⟩
theorem Y4.Nc{w w1:World}(h:Y4 w w1){G:zi}{γ:Gh}{st:St}{tmps:Array Value}(hs:Qs G γ st tmps w):Qs G γ st tmps w1:=
 ⟨hs.n,λi=>h.rep (hs.t i),λb k hk=>h.xT (hs.b b k hk),hs.u,λg cells hg=>(hs.g g cells hg).mono λ_ _ _ h1 h2=>⟨h1,h.cell h2⟩,λB x hx=>wZ (hs.o B x hx) h.size⟩
theorem Qe.same{γ γ':Gh}{w w1 w2:World}(g:Qe γ w γ' w1)(h:Y4 w1 w2)(hl:∀B,B < w.heap.size->w2.heap[B]?=w1.heap[B]?)(h1:w2.os=w1.os)(h2:w2.tape=w1.tape)(h3:w2.output=w1.output):Qe γ w γ' w2 where
 os:=h1.trans g.os
 tape:=h2.trans g.tape
 output:=h3.trans g.output
 size:=Nat.le_trans g.size h.size
 Pf:=λB o v hB hc=>h.cell (g.Pf B o v hB hc)
 Qr:=g.Qr
 free:=λB hB ho=>by
  obtain⟨a1,a2,a3⟩:=g.free B hB ho;grind
 room:=λB cs e fz hc=>by
  obtain⟨cs',fz',a1,a2⟩:=g.room B cs e fz hc;grind
def Gv:Obj->Bool
 | .cells _ _ _=>true
 | .map _ _=>true
 | _=>false
theorem Y4.put{w:World}{l:Nat}{o o':Obj}(h:w.heap[l]?=some o)(hn:Gv o=false):Y4 w (w.putObj l o'):=
 ⟨by simp,λB cs e fz hb=>by
  have hne:B≠l:=λe'=>by subst e';rw[h] at hb;simp only[zG] at hb;rw[hb] at hn;cases hn
  grind [World.putObj_heap_other],λB es c hb=>by
  have hne:B≠l:=λe'=>by subst e';rw[h] at hb;simp only[zG] at hb;rw[hb] at hn;cases hn
  grind [World.putObj_heap_other]⟩
theorem Qe.put{γ γ':Gh}{w w1:World}(g:Qe γ w γ' w1){l:Nat}{o o':Obj}(h:w1.heap[l]?=some o)(hn:Gv o=false)(hl:w.heap.size<=l):Qe γ w γ' (w1.putObj l o'):=
 g.same (.put h hn) (by grind [World.putObj_heap_other]) rfl rfl rfl
theorem G0{P:Program}{fn:Func}{tmps:Array Value}{R:Ending->World->Prop}{rest:List Deferred}{u:FrameMode}(hu:u≠.run)(I:World->Prop)(hI:∀w,I w->LeavesInM (RF none) 0 P fn tmps R rest u w) :
  ∀(Ds:List Nat) (w:World),I w->Ds.Nodup->(∀D,D∈Ds->w.heap[D]?=some (.deferred (some [])))->(∀D w,D∈Ds->I w->w.heap[D]?=some (.deferred (some []))->I (w.putObj D (.deferred none)))->
   LeavesInM (RF none) 0 P fn tmps R (Ds.map YQ++rest) u w
 | [],w,h,_,_,_=>hI w h
 | D :: Ds,w,h,hn,hd,hp=>by
  refine⟨hu,.inl ⟨D,_,rfl,run_takeDeferred (hd D (by simp)),?_⟩⟩;have hn':=List.nodup_cons.1 hn;refine G0 hu I hI Ds _ (by grind) hn'.2 (λE hE=>?_) (by grind);grind [World.putObj_heap_other]
theorem YU{P:Program}{fn:Func}{tmps:Array Value}{R:Ending->World->Prop}(I:World->Prop)(hI:∀w,I w->∃v,(results fn tmps).run P w=.ok v w/\R (.returned v) w) :
  ∀(Ds:List Nat) (w:World),I w->Ds.Nodup->(∀D,D∈Ds->w.heap[D]?=some (.deferred (some [])))->(∀D w,D∈Ds->I w->w.heap[D]?=some (.deferred (some []))->I (w.putObj D (.deferred none)))->
   LeavesInM (RF none) 0 P fn tmps R (Ds.map YQ) .returning w
 | [],w,h,_,_,_=>hI w h
 | D :: Ds,w,h,hn,hd,hp=>by
  refine⟨by simp,.inl ⟨D,_,rfl,run_takeDeferred (hd D (by simp)),?_⟩⟩;have hn':=List.nodup_cons.1 hn;refine YU I hI Ds _ (by grind) hn'.2 (λE hE=>?_) (by grind);grind [World.putObj_heap_other]
section
variable {P:Program} {G:zi} {kp:List Nat} {rec:Rec P G} (hm:P.follows .mixedOrders=true) (hrec:Tf rec) {ρ:Type} {F:YE ρ} {g:T P G ρ} {K:List Kf} {d:D} {r:ρ}
theorem TV.PC{c:Code}{st:St}{Q:Exit->St->Prop}(h:TV P G c st (noGoto Q)):TV P G (.scope c) st Q:=
 (TV.scope h λl s hs=>hs.elim).mono λe s hs=>by
  cases e<;>first|exact hs.elim|exact hs
theorem Vt{σ ε:Type}{S:σ->Ext}{body:σ->T P G (σ⊕ε)}{E:ε->Ext}{x:Code}{n:Nat}(hrec:Tf rec)
  (hb:∀y,(match (S y).ok&&I6 (S y).ex with
     | true=>rec _ (.qI S E) (body y) (.inl x) [] ((S y).D n)
     | false=>.stuck 69)=(body y).expect (.qI S E))
  (e0:ε) (m:Nat) (y0:σ) (hit:I0 (λy=>(body y).run) m y0=some e0):TV P G (.loop x) ((S y0).D n).st (Hy (E e0) n):=by
 have okS:∀y,(S y).ok=true/\rec _ (.qI S E) (body y) (.inl x) [] ((S y).D n)=(body y).expect (.qI S E):=(by grind [Z6,absurd]);refine TV.loop (λm st=>∃y,st=((S y).D n).st/\I0 (λy=>(body y).run) m y=some e0) (λm st hI=>?_) (n:=m) ⟨y0,rfl,hit⟩;obtain⟨y,rfl,hy⟩:=hI;obtain⟨s1,s3⟩:=okS y;cases m with
 | zero=>simp[I0] at hy
 | succ m=>
  have hy':(match (body y).run with|none=>none|some (.inl z)=>I0 (λy=>(body y).run) m z|some (.inr e)=>some e)=some e0:=hy;cases hrun:(body y).run with
  | none=>grind
  | some z=>
   rw[hrun] at hy';cases z with
   | inl z=>
    simp only at hy';have key:TV P G x ((S y).D n).st (λe s=>I6 e=true/\Hy (S z) n e s):=hrec _ _ _ _ _ _ _ (JH s1) s3 hrun;obtain⟨z1,_⟩:=okS z;refine TV.rel key λe s hg=>?_;obtain⟨g0,_,g2,g3,g4⟩:=hg;have f:=ZD (G:=G) (s:=s) z1 g3 g4;rw[g2] at f;rw[JG g0];exact Rel.ghost f (Rel.of ⟨m,by omega,z,rfl,hy'⟩)
   | inr e=>
    simp only[zG] at hy';subst hy';have key:TV P G x ((S y).D n).st (λe' s=>I6 e'=false/\Hy (E e) n e' s):=hrec _ _ _ _ _ _ _ (JH s1) s3 hrun;exact key.mono (by grind [HO,Jh])
include hrec in
theorem Uj{ε:Type}{S:Sub P G ε}{e:ε}{k:T P G ρ}{c:Code}(h1:c=S.c)(h2:d.n=S.n)(hx:S.x.ok=true)(h3:KO S.x d.st=S.x.ts)(h4:KL S.x d.st=S.x.bs.map λp=>(p.1,some p.2))(he:S.o=some e)
  (h6:(match (S.E e).ok with
   | true=>rec ρ F k (.inr (S.E e).ex) K ((S.E e).D d.n)
   | false=>.stuck 64)=k.expect F) (hr:k.run=some r):TV P G c d.st (Qx P G (B3 P F r d.n) K):=by
 split at h6
 ·rename_i hok;have key:=S.ok e he;rw[<-h1,<-h2] at key;have hq:Rel P G (Qx P G (B3 P F r d.n) K) (S.E e).ex ((S.E e).D d.n).st:=hrec _ _ _ _ _ ((S.E e).D d.n) _ (JH hok) h6 hr;refine TV.ghost (ZD (s:=d.st) hx h3 h4) (TV.rel key λe' s hg=>?_);obtain⟨g1,g2⟩:=hg;rw[g1];exact hq.ghost g2
 grind [Z6,absurd]
include hrec in
theorem yT{c:Code}(hd:d.Ok)(h:sxN rec F g c K d=g.expect F)(hr:g.run=some r):TV P G c d.st (Qx P G (B3 P F r d.n) K):=by
 unfold sxN at h;split at h
 ·rename_i o x y;split at h
  ·rename_i a' c' a b;split at h
   ·rename_i c hc;simp only[T.expect,C.br.injEq] at h;obtain⟨rfl,h1,h2⟩:=h;simp only[T.run] at hr;refine TV.cond hc ?_;cases c with
    | true=>exact hrec _ _ _ _ _ _ _ hd h1 (by simpa using hr)
    | false=>exact hrec _ _ _ _ _ _ _ hd h2 (by simpa using hr)
   grind [Z6,absurd]
  ·rename_i k;split at h
   ·rename_i c hc;split at h
    ·refine TV.cond hc ?_;exact hrec _ _ _ _ _ _ _ hd (by simpa[T.expect] using h) (by simpa[T.run] using hr)
    grind [Z6,absurd]
   grind [Z6,absurd]
  ·rename_i k;split at h
   ·rename_i c hc;split at h
    ·refine TV.cond hc ?_;exact hrec _ _ _ _ _ _ _ hd (by simpa[T.expect] using h) (by simpa[T.run] using hr)
    grind [Z6,absurd]
   grind [Z6,absurd]
  grind [Z6,absurd]
 ·exact TV.block (hrec _ _ _ _ _ _ _ hd h hr)
 ·exact TV.PC (hrec _ _ _ _ _ _ _ hd h hr)
 ·rename_i x;split at h
  ·rename_i σ S body x0;split at h
   ·rename_i E;split at h
    ·simp only[T.expect,C.loop.injEq,heq_eq_eq,true_and] at h;obtain⟨h1,h2,h3⟩:=h;simp only[T.run] at hr;have hb:=λy=>congrFun h3 y;have s1:(S x0).ok=true:=by
      grind [Z6,absurd]
     exact TV.ghost (ZD (s:=d.st) s1 h1 h2) (Vt hrec hb r Yv x0 hr)
    grind [Z6,absurd]
   grind [Z6,absurd]
  ·exact TV.Im (hrec _ _ _ _ _ _ _ hd h hr)
 ·split at h
  ·rename_i ε S k;split at h
   ·rename_i hx;simp only[T.expect,C.sub.injEq,heq_eq_eq,true_and] at h;obtain⟨h1,h2,h3,h4,h5⟩:=h;simp only[T.run] at hr;split at hr
    ·rename_i e he;exact Uj hrec h1 h2 hx h3 h4 he (congrFun h5 e) hr
    ·simp at hr
   grind [Z6,absurd]
  ·rename_i ε ζ S k k2;split at h
   ·rename_i hx;simp only[T.expect,C.EI.injEq,heq_eq_eq,true_and] at h;obtain⟨h1,h2,h3,h4,h5,h6⟩:=h;simp only[T.run] at hr;split at hr
    ·rename_i e he;exact Uj hrec h1 h2 hx h3 h4 he (congrFun h5 e) hr
    ·rename_i e he;exact Uj hrec h1 h2 hx h3 h4 he (congrFun h6 e) hr
    ·simp at hr
   grind [Z6,absurd]
  grind [Z6,absurd]
 grind [Z6,absurd]
include hrec in
theorem DQ{ε:Type}{E:ε->Ext}{E':Ext}{e:ε}{first:T P G ε}{k:T P G ρ}{c:Code}(hd:d.Ok)(h1:rec _ (.FB E) first (.inl c) [] d=first.expect (.FB E))(he:first.run=some e)(hE:E e=E')
  (h3:(match E'.ok with
   | true=>rec ρ F k (.inr E'.ex) K (E'.D d.n)
   | false=>.stuck 64)=k.expect F) (hr:k.run=some r):TV P G c d.st (Qx P G (B3 P F r d.n) K):=by
 subst hE;split at h3
 ·rename_i hok;have key:TV P G c d.st (B3 P (.FB E) e d.n):=hrec _ _ _ _ _ _ _ hd h1 he;have hq:Rel P G (Qx P G (B3 P F r d.n) K) (E e).ex ((E e).D d.n).st:=hrec _ _ _ _ _ ((E e).D d.n) _ (JH hok) h3 hr;refine TV.rel key λe' s hg=>?_;obtain⟨g1,g2,g3,g4⟩:=hg;have f:=ZD (G:=G) (s:=s) hok g3 g4;rw[g2] at f;rw[g1];exact hq.ghost f
 grind [Z6,absurd]
include hrec in
theorem jZ{c:Code}(hd:d.Ok)(h:sxB rec F g c K d=g.expect F)(hr:g.run=some r):TV P G c d.st (Qx P G (B3 P F r d.n) K):=by
 unfold sxB at h;split at h
 ·rename_i ε first E k
  simp only[T.expect,C.bind.injEq,heq_eq_eq,true_and] at h;obtain⟨h1,h2⟩:=h;simp only[T.run] at hr;split at hr
  ·rename_i e he;exact DQ hrec hd h1 he rfl (congrFun h2 e) hr
  ·simp at hr
 ·rename_i ε ζ first E E2 k k2
  simp only[T.expect,C.QC.injEq,heq_eq_eq,true_and] at h;obtain⟨h1,h2,h3⟩:=h;simp only[T.run] at hr;split at hr
  ·rename_i e he;exact DQ hrec hd h1 he rfl (congrFun h2 e) hr
  ·rename_i e he;exact DQ hrec hd h1 he rfl (congrFun h3 e) hr
  ·simp at hr
 ·rename_i ε ζ j first E E2 k k2
  have hr':(T.QC j first E E2 k k2).run=some r:=by grind [T.run]
  have ex':(T.QC j first E E2 k k2).expect F=(T.QC (j+1) first E E2 k k2).expect F:=by simp only[T.expect]
  rw[<-ex'] at h;split at h
  ·exact TV.block (hrec _ _ _ _ _ _ _ hd h hr')
  ·exact TV.PC (hrec _ _ _ _ _ _ _ hd h hr')
  ·exact TV.Im (hrec _ _ _ _ _ _ _ hd h hr')
  grind [Z6,absurd]
 ·rename_i ε j first E k
  have hr':(T.bind j first E k).run=some r:=by grind [T.run]
  have ex':(T.bind j first E k).expect F=(T.bind (j+1) first E k).expect F:=by simp only[T.expect]
  rw[<-ex'] at h;split at h
  ·exact TV.block (hrec _ _ _ _ _ _ _ hd h hr')
  ·exact TV.PC (hrec _ _ _ _ _ _ _ hd h hr')
  ·exact TV.Im (hrec _ _ _ _ _ _ _ hd h hr')
  grind [Z6,absurd]
 grind [yT]
include hrec in
theorem Ah{c:Code}(_:d.Ok)(h:BC rec F g c K d=g.expect F)(hr:g.run=some r):TV P G c d.st (Qx P G (B3 P F r d.n) K):=by
 unfold BC at h;split at h
 ·rename_i ε S k;split at h
  ·rename_i hx;simp only[T.expect,C.sub.injEq,heq_eq_eq,true_and] at h;obtain⟨h1,h2,h3,h4,h5⟩:=h;simp only[T.run] at hr;split at hr
   ·rename_i e he;exact Uj hrec h1 h2 hx h3 h4 he (congrFun h5 e) hr
   ·simp at hr
  grind [Z6,absurd]
 ·rename_i ε ζ S k k2;split at h
  ·rename_i hx;simp only[T.expect,C.EI.injEq,heq_eq_eq,true_and] at h;obtain⟨h1,h2,h3,h4,h5,h6⟩:=h;simp only[T.run] at hr;split at hr
   ·rename_i e he;exact Uj hrec h1 h2 hx h3 h4 he (congrFun h5 e) hr
   ·rename_i e he;exact Uj hrec h1 h2 hx h3 h4 he (congrFun h6 e) hr
   ·simp at hr
  grind [Z6,absurd]
 grind [Z6,absurd]
include hrec hm in
theorem jQ{c:Code}(hd:d.Ok)(h:sxC kp rec F g c K d=g.expect F)(hr:g.run=some r):TV P G c d.st (Qx P G (B3 P F r d.n) K):=by
 unfold sxC at h;split at h
 ·exact TV.Qh7 (hrec _ _ _ _ _ _ _ hd h hr)
 ·exact TV.Qy6 (hrec _ _ _ _ _ _ _ hd h hr)
 ·exact TV.Qeu (hrec _ _ _ _ _ _ _ hd h hr)
 ·exact TV.Qdo (hrec _ _ _ _ _ _ _ hd h hr)
 ·split at h
  ·grind [Ah]
  ·exact TV.seq (hrec _ _ _ _ _ _ _ hd h hr)
 ·grind [yC]
 grind [jZ]
theorem IC.ghost{Q:Exit->St->Prop}{cur:Code⊕Exit}{st st':St}(g:QU G st st')(h:IC P G Q cur K st'):IC P G Q cur K st:=by
 cases cur with
 | inl c=>exact TV.ghost g h
 | inr e=>exact Rel.ghost (P:=P) g h
include hrec hm in
theorem HG{cur:Code⊕Exit}(hd:d.Ok)(h:cH kp rec F g cur K d=g.expect F)(hr:g.run=some r):IC P G (B3 P F r d.n) cur K d.st:=by
 unfold cH at h;split at h
 ·exact yV hrec hd h hr
 ·exact jQ hm hrec hd h hr
include hrec hm in
theorem yB{cur:Code⊕Exit}(hd:d.Ok)(h:sxS kp rec F g cur K d=g.expect F)(hr:g.run=some r):IC P G (B3 P F r d.n) cur K d.st:=by
 unfold sxS at h;split at h
 ·simp[T.run] at hr
 ·rename_i p i k;simp only[T.expect,C.fact.injEq,heq_eq_eq,true_and] at h;cases i with
  | isTrue hp=>exact hrec _ _ _ _ _ _ _ hd (congrFun h hp) hr
  | isFalse hp=>simp[T.run] at hr
 ·rename_i a c x y;split at h
  ·simp only[T.expect,C.br.injEq] at h;obtain⟨_,h1,h2⟩:=h;simp only[T.run] at hr;cases c with
   | true=>exact hrec _ _ _ _ _ _ _ hd h1 (by simpa using hr)
   | false=>exact hrec _ _ _ _ _ _ _ hd h2 (by simpa using hr)
  ·split at h
   ·split at h
    ·simp only[T.expect,C.br.injEq] at h;obtain⟨_,h1,h2⟩:=h;simp only[T.run] at hr;cases c with
     | true=>exact Ah hrec hd h1 (by simpa using hr)
     | false=>exact hrec _ _ _ _ _ _ _ hd h2 (by simpa using hr)
    grind [HG]
   grind [HG]
 ·rename_i a w k;split at h
  ·simp only[T.expect,C.gh.injEq] at h;obtain⟨h1,h2⟩:=h;obtain⟨d',x1,x2,x3,x4⟩:=eW (G:=G) h2 (λj=>Z6 F k j) h1 hd;have:=hrec _ _ _ _ _ _ _ x2 x1 (by simpa[T.run] using hr);rw[x4] at this;exact this.ghost x3
  grind [HG]
 ·rename_i a b ty l n hs k;split at h
  ·split at h
   ·rename_i kb hb hlow;simp only[zL,zM] at hlow;simp only[T.expect,C.Zr.injEq] at h;obtain⟨h1,_,h3⟩:=h;simp only[T.run] at hr;cases hc:decide (n<=l.length) with
    | false=>grind
    | true=>
     rw[hc] at hr;obtain⟨d',x1,x2,x3,x4⟩:=qY (G:=G) h3 hd hb hlow.1 (Np hlow.2 hb) hs h1 (by simpa using hc);have:=hrec _ _ _ _ _ _ _ x2 x1 (by simpa using hr);rw[x4] at this;exact this.ghost x3
   grind [Z6,absurd]
  grind [HG]
 grind [HG]
end
theorem Na{P:Program}{G:zi}{kp:List Nat}(hm:P.follows .mixedOrders=true):∀n,Tf (sx P G kp n)
 | 0=>λ_ F g _ _ _ _ _ h _=>absurd h (Z6 F g 99)
 | n+1=>λ_ _ _ _ _ _ _ hd h hr=>yB hm (Na hm n) hd h hr
def U5(args:List V):List (Nat×V):=args.zipIdx.map λx=>(x.2,x.1)
def fnC(P:Program)(G:zi)(kp:List Nat)(fn:Func)(args:List V)(x:Ext){ρ:Type}(g:T P G ρ)(res:ρ->V)(outs:ρ->List (Nat×Qd)):Bool×C:=
 (fn.body.isSome&&(x.ok&&x.bs.all λp=>decide (1000000<=p.1)),sx P G kp 100000 ρ (.fn fn.results.toList res outs) g (.inl (fn.body.getD .skip)) [] (x.D (max fn.ntmps args.length)))
theorem He:∀(args:List V) (k i:Nat),(match ((args.zipIdx k).map λx=>(x.2,x.1)).find? (λp=>p.1==i+k) with|some p=>p.2|none=>V.undef)=args.getD i .undef
 | [],k,i=>rfl
 | v :: args,k,i=>by
  simp only[List.zipIdx_cons,wE];cases i with
  | zero=>simp
  | succ i=>
   rw[List.find?_cons_of_neg (by simp)];have:=He args (k+1) i;grind
theorem Mt{P:Program}{G:zi}{f:FuncId}{fn:Func}{c:Code}{n:Nat}{args:List V}{ins:zj}{res:V}{outs:zj}
  (hf:P.funcs[f]?=some fn) (hb:fn.body=some c) (hn:n=max fn.ntmps args.length)
  (h:∀(γ:Gh) (a:Act) (w:World),Qs G γ (U3 n args ins) a.tmps w->a.defers=[]->CW none P c (λe a' w'=>∃v0,X5 8 res v0=res/\L7 G ⟨none,[],true⟩ γ (U3 n args ins) w (Pl P fn.results.toList v0 outs) e a' w') a w):QR P G f args ins res outs:=by
 intro γ w as hg ho ha hbl;have hsz:as.size=args.length:=ha.1;have hs:Qs G γ (U3 n args ins) (as++Array.replicate (fn.ntmps - as.size) undef) w:=by
  refine⟨by grind [Array.size_append,Array.size_replicate,U3],λi=>?_,λb k hk=>(hbl b k hk).2,λb k hk=>(hbl b k hk).1,hg,ho⟩;show Qz γ w ins Qw (args.getD i .undef) _;by_cases hi:i < args.length
  ·have e1:args.getD i .undef=args[i]:=by grind
   have e2:(as++Array.replicate (fn.ntmps - as.size) undef).getD i undef=as[i]'(by omega):=by
    simp_all [wL,Array.getElem?_append_left,wB]
   rw[e1,e2];exact ha.2 i _ _ (by grind) (by grind)
  ·have e1:args.getD i .undef=.undef:=by grind
   rw[e1];exact .undef _
 refine(callsIn_wide (n:=0)).1 (callsIn_of_wp_marks hf hb trivial (wpIn_mono (h γ ⟨as++Array.replicate (fn.ntmps - as.size) undef,[]⟩ w hs rfl) λe a' w' hl=>?_));obtain⟨v0,hv0,st',γ',h1,⟨h2,h2p⟩,⟨Ds,_,m1,m2,m3⟩,he,hr,hout⟩:=hl;have ble:G7 γ' st'.b st'.u γ' outs (λ_=>true):=by
  refine⟨λ_ _=>rfl,λb _ hn=>?_,λb k hk=>⟨rfl,?_⟩⟩
  ·cases ho:outs b with
   | none=>rfl
   | some k=>grind
  ·cases ho:outs b with
   | none=>exact .inl rfl
   | some k'=>
    grind
 have fin:LeavesInM (RF none) 0 P fn a'.tmps (λe w'=>∃v γ',e=.returned v/\Qe γ w γ' w'/\Zf γ ins Qw γ' outs (λ_=>true)/\Qz γ' w' outs (λ_=>true) res v/\
   (∀b k,outs b=some k->X3 γ' w' outs (λ_=>true) b k)/\(∀B x,γ'.own B=some x->B < w'.heap.size)) a'.defers .returning w':=by
  rw[m1,wS];refine YU (λw''=>Qs G γ' st' a'.tmps w''/\Qe γ w γ' w'') (λw'' hI=>?_) Ds w' ⟨h1,h2⟩ m2 (λD hD=>(m3 D hD).2.1) λD w'' hD hI hd=>
   ⟨(Y4.put hd rfl).Nc hI.1,hI.2.put hd rfl (m3 D hD).1⟩
  obtain⟨i1,i2⟩:=hI;obtain⟨v,hv,hrep⟩:=C6 (P:=P) i1 hr;refine⟨v,hv,v,γ',rfl,i2,h2p.trans ble.Ue,(by have:=WY 8 res v0 v (hrep.mono (.refl _ _) ble);grind),λb k hk=>?_,i1.o⟩;rcases i1.b b k (hout b k hk) with h0|hm|⟨hM,B,o,cs,e,a1,a2,a3,a4,a5,a6,a7,a8⟩
  ·exact .inl h0
  ·exact .inr (.inl (hm.same rfl (by grind) λc v hr=>hr.mono (.refl _ _) ble))
  refine .inr (.inr ⟨hM,B,o,cs,e,a1,a2,a3,a4,a5,λi c hc=>?_,a7,a8⟩);obtain⟨x,b1,b2,b3,b4⟩:=a6 i c hc;exact⟨x,b1,b2.mono (.refl _ _) ble,b3,b4⟩
 rcases he with rfl|rfl
 ·exact fin
 ·exact fin
theorem Bv{P:Program}{G:zi}{f:FuncId}{fn:Func}{c:Code}{n:Nat}{args:List V}{ins:zj}{v:List PanicEntry}{outs:zj}
  (hf:P.funcs[f]?=some fn) (hb:fn.body=some c) (hn:n=max fn.ntmps args.length)
  (h:∀(γ:Gh) (a:Act) (w:World),Qs G γ (U3 n args ins) a.tmps w->a.defers=[]->CW none P c (L7 G ⟨none,[],true⟩ γ (U3 n args ins) w λe s=>e=.panic v/\∀b k,outs b=some k->s.b b=some k) a w) :
  EK P G f args ins v outs:=by
 intro γ w as hg ho ha hbl;have hsz:as.size=args.length:=ha.1;have hs:Qs G γ (U3 n args ins) (as++Array.replicate (fn.ntmps - as.size) undef) w:=by
  refine⟨by grind [Array.size_append,Array.size_replicate,U3],λi=>?_,λb k hk=>(hbl b k hk).2,λb k hk=>(hbl b k hk).1,hg,ho⟩;show Qz γ w ins Qw (args.getD i .undef) _;by_cases hi:i < args.length
  ·have e1:args.getD i .undef=args[i]:=by grind
   have e2:(as++Array.replicate (fn.ntmps - as.size) undef).getD i undef=as[i]'(by omega):=by
    simp_all [wL,Array.getElem?_append_left,wB]
   rw[e1,e2];exact ha.2 i _ _ (by grind) (by grind)
  ·have e1:args.getD i .undef=.undef:=by grind
   rw[e1];exact .undef _
 refine(callsIn_wide (n:=0)).1 (callsIn_of_wp_marks hf hb trivial (wpIn_mono (h γ ⟨as++Array.replicate (fn.ntmps - as.size) undef,[]⟩ w hs rfl) λe a' w' hl=>?_));obtain⟨st',γ',h1,⟨h2,h2p⟩,⟨Ds,_,m1,m2,m3⟩,rfl,hout⟩:=hl;have ble:G7 γ' st'.b st'.u γ' outs (λ_=>true):=by
  refine⟨λ_ _=>rfl,λb _ hn=>?_,λb k hk=>⟨rfl,?_⟩⟩
  ·cases ho:outs b with
   | none=>rfl
   | some k=>grind
  ·cases ho:outs b with
   | none=>exact .inl rfl
   | some k'=>
    grind
 show LeavesInM (RF none) 0 P fn a'.tmps _ a'.defers (.panicking v) w';rw[m1];refine G0 (u:=.panicking v) (by simp) (λw''=>Qs G γ' st' a'.tmps w''/\Qe γ w γ' w'') (λw'' hI=>?_) Ds w' ⟨h1,h2⟩ m2 (λD hD=>(m3 D hD).2.1) λD w'' hD hI hd=>
  ⟨(Y4.put hd rfl).Nc hI.1,hI.2.put hd rfl (m3 D hD).1⟩
 obtain⟨i1,i2⟩:=hI;refine⟨undef,γ',rfl,i2,h2p.trans ble.Ue,.undef _,λb k hk=>?_,i1.o⟩;rcases i1.b b k (hout b k hk) with h0|hm|⟨hM,B,o,cs,e,a1,a2,a3,a4,a5,a6,a7,a8⟩
 ·exact .inl h0
 ·exact .inr (.inl (hm.same rfl (by grind) λc v hr=>hr.mono (.refl _ _) ble))
 refine .inr (.inr ⟨hM,B,o,cs,e,a1,a2,a3,a4,a5,λi c hc=>?_,a7,a8⟩);obtain⟨x,b1,b2,b3,b4⟩:=a6 i c hc;exact⟨x,b1,b2.mono (.refl _ _) ble,b3,b4⟩
theorem dC{n:Nat}{args:List V}{x:Ext}(hx:x.ts=U5 args)(h3:∀p,p∈x.bs->1000000<=p.1):(x.D n).st=U3 n args (Qm x.bs):=by
 unfold D.st Ext.D D2 U3;simp only[St.mk.injEq,true_and];refine⟨funext λi=>?_,rfl,funext λi=>?_⟩
 ·rw[hx];have:=He args 0 i;exact this
 ·cases hu:Qw i with
  | true=>simp
  | false=>
   simp only[Bool.or_false];refine Bool.eq_false_iff.2 λhc=>?_;simp only[Ext.us,wz,zM] at hc;obtain⟨p,hp,rfl⟩:=zP.1 hc;grind [Qw]
def Qjk(P:Program)(G:zi)(kp:List Nat)(fn:Func)(args:List V)(x:Ext){α β:Type}(g:T P G (α⊕β))(res:α->V)(outs:α->List (Nat×Qd))(Hp:β->List PanicEntry)(Zj:β->List (Nat×Qd)):Bool×C:=
 (fn.body.isSome&&(x.ok&&x.bs.all λp=>decide (1000000<=p.1)),sx P G kp 100000 (α⊕β) (.rE fn.results.toList res outs (λz=>.panic (Hp z)) Zj) g (.inl (fn.body.getD .skip)) [] (x.D (max fn.ntmps args.length)))
theorem dH{P:Program}{G:zi}{kp:List Nat}(hm:P.follows .mixedOrders=true){f:FuncId}{fn:Func}(hf:P.funcs[f]?=some fn){args:List V}{x:Ext}(hx:x.ts=U5 args){α β:Type}{g:T P G (α⊕β)}
  {res:α->V} {outs:α->List (Nat×Qd)} {Hp:β->List PanicEntry} {Zj:β->List (Nat×Qd)} (h:Qjk P G kp fn args x g res outs Hp Zj=(true,g.expect (.rE fn.results.toList res outs (λz=>.panic (Hp z)) Zj))) :
  (∀r,g.run=some (.inl r)->QR P G f args (Qm x.bs) (res r) (Qm (outs r)))/\∀z,g.run=some (.inr z)->EK P G f args (Qm x.bs) (Hp z) (Qm (Zj z)):=by
 simp only[Qjk,zT,zL,zN,zM] at h;obtain⟨⟨h1,h2,h3⟩,h4⟩:=h;obtain⟨c,hc⟩:=Option.isSome_iff_exists.1 h1;rw[hc] at h4;have e:=dC (n:=max fn.ntmps args.length) hx h3;have key:∀q,g.run=some q->TV P G c (U3 (max fn.ntmps args.length) args (Qm x.bs)) (B3 P (.rE fn.results.toList res outs (λz=>.panic (Hp z)) Zj) q (max fn.ntmps args.length)):=λq hr=>by
  have:=Na hm 100000 _ _ _ _ _ _ _ (JH h2) h4 hr;rw[<-e];exact this
 constructor
 ·intro r hr;refine Mt hf hc rfl λγ a w hs hd=>wpIn_mono (key _ hr ⟨none,[],true⟩ γ a w hs ⟨hd,rfl,λ_ h=>by simp at h⟩) λe a' w' hl=>?_;obtain⟨st',γ',k1,k2,k3,v0,k4,k5⟩:=hl;exact⟨v0,k4,st',γ',k1,k2,k3,k5⟩
 ·intro z hr;exact Bv hf hc rfl λγ a w hs hd=>key _ hr ⟨none,[],true⟩ γ a w hs ⟨hd,rfl,λ_ h=>by simp at h⟩
theorem sP{P:Program}{G:zi}{kp:List Nat}(hm:P.follows .mixedOrders=true){f:FuncId}{fn:Func}(hf:P.funcs[f]?=some fn){args:List V}{x:Ext}(hx:x.ts=U5 args){ρ:Type}{g:T P G ρ}
  {res:ρ->V} {outs:ρ->List (Nat×Qd)} (h:fnC P G kp fn args x g res outs=(true,g.expect (.fn fn.results.toList res outs))):∀r,g.run=some r->QR P G f args (Qm x.bs) (res r) (Qm (outs r)):=by
 intro r hr;simp only[fnC,zT,zL,zN,zM] at h;obtain⟨⟨h1,h2,h3⟩,h4⟩:=h;obtain⟨c,hc⟩:=Option.isSome_iff_exists.1 h1;rw[hc] at h4;have key:TV P G c (x.D (max fn.ntmps args.length)).st (B3 P (.fn fn.results.toList res outs) r _):=Na hm 100000 _ _ _ _ _ _ _ (JH h2) h4 hr;have e:(x.D (max fn.ntmps args.length)).st=U3 (max fn.ntmps args.length) args (Qm x.bs):=by
  unfold D.st Ext.D D2 U3;simp only[St.mk.injEq,true_and];refine⟨funext λi=>?_,rfl,funext λi=>?_⟩
  ·rw[hx];have:=He args 0 i;exact this
  ·cases hu:Qw i with
   | true=>simp
   | false=>
    simp only[Bool.or_false];refine Bool.eq_false_iff.2 λhc=>?_;simp only[Ext.us,wz,zM] at hc;obtain⟨p,hp,rfl⟩:=zP.1 hc;grind [Qw]
 rw[e] at key;intro γ w as hg ho ha hbl;have key2:∀(γ:Gh) (a:Act) (w:World),Qs G γ (U3 (max fn.ntmps args.length) args (Qm x.bs)) a.tmps w->a.defers=[]->
   CW none P c (λe a' w'=>∃v0,X5 8 (res r) v0=res r/\L7 G ⟨none,[],true⟩ γ (U3 (max fn.ntmps args.length) args (Qm x.bs)) w (Pl P fn.results.toList v0 (Qm (outs r))) e a' w') a w:=λγ a w hs hd=>
  wpIn_mono (key ⟨none,[],true⟩ γ a w hs ⟨hd,rfl,λ_ h=>by simp at h⟩) λe a' w' hl=>by
   obtain⟨st',γ',k1,k2,k3,v0,k4,k5⟩:=hl;exact⟨v0,k4,st',γ',k1,k2,k3,k5⟩
 exact Mt hf hc rfl key2 γ w as hg ho ha hbl
def iB(P:Program)(G:zi)(kp:List Nat)(fn:Func)(args:List V){ρ:Type}(g:T P G ρ)(res:ρ->V):Prop:=
 fnC P G kp fn args (Ext.l .normal (U5 args) []) g res (λ_=>[])=(true,g.expect (.fn fn.results.toList res λ_=>[]))
def Spec.ofFn{P:Program}{G:zi}{kp:List Nat}(f:FuncId){fn:Func}{args:List V}{ρ:Type}{g:T P G ρ}{res:ρ->V}(hm:P.follows .mixedOrders=true)(hf:P.funcs[f]?=some fn)(k:iB P G kp fn args g res):Spec P G ρ:=
 ⟨f,args,[],g.run,res,λ_=>[],[],λ_ _ h=>by simp at h,sP hm hf rfl k⟩
def Jf(P:Program)(G:zi)(kp:List Nat)(fn:Func)(args:List V)(x:Ext){ρ:Type}(g:T P G ρ)(res:ρ->V)(O:ρ->Ext):Prop:=
 fnC P G kp fn args x g res (λr=>(O r).bs)=(true,g.expect (.fn fn.results.toList res λr=>(O r).bs))
def Spec.Zk{P:Program}{G:zi}{kp:List Nat}(f:FuncId){fn:Func}{args:List V}{x:Ext}{ρ:Type}{g:T P G ρ}{res:ρ->V}{O:ρ->Ext}(dt:List Nat)(hm:P.follows .mixedOrders=true)(hf:P.funcs[f]?=some fn)(hx:x.ts=U5 args)
  (hdt:∀r,((O r).bs.all λp=>!dt.contains p.1 || (O r).dt.contains p.1)=true) (k:Jf P G kp fn args x g res O):Spec P G ρ:=
 ⟨f,args,x.bs,g.run,res,λr=>(O r).bs,dt,λr p hp hd=>(O r).JN p hp (by
  grind),sP hm hf hx k⟩
def Hi(P:Program)(G:zi)(kp:List Nat)(fn:Func)(args:List V)(x:Ext){α β:Type}(g:T P G (α⊕β))(res:α->V)(O:α->Ext)(Hp:β->List PanicEntry)(OP:β->Ext):Prop:=
 Qjk P G kp fn args x g res (λr=>(O r).bs) Hp (λr=>(OP r).bs)=(true,g.expect (.rE fn.results.toList res (λr=>(O r).bs) (λz=>.panic (Hp z)) λr=>(OP r).bs))
def L0.ofFn{P:Program}{G:zi}{kp:List Nat}(f:FuncId){fn:Func}{args:List V}{x:Ext}{α β:Type}{g:T P G (α⊕β)}{res:α->V}{O:α->Ext}{Hp:β->List PanicEntry}{OP:β->Ext}(dt:List Nat)(hm:P.follows .mixedOrders=true)(hf:P.funcs[f]?=some fn)(hx:x.ts=U5 args)
  (hdt:∀r,((O r).bs.all λp=>!dt.contains p.1 || (O r).dt.contains p.1)=true) (hdp:∀r,((OP r).bs.all λp=>!dt.contains p.1 || (OP r).dt.contains p.1)=true) (k:Hi P G kp fn args x g res O Hp OP):L0 P G α β:=
 ⟨f,args,x.bs,g.run,res,λr=>(O r).bs,Hp,λr=>(OP r).bs,dt,λr p hp hd=>(O r).JN p hp (by
  grind),λr p hp hd=>(OP r).JN p hp (by
  grind),(dH hm hf hx k).1,(dH hm hf hx k).2⟩
def Q0(n:Int):Int:=IntKind.i64.wrap n
def Z4(n:Int):Int:=IntKind.u64.wrap n
def O2(n:Int):Int:=IntKind.u32.wrap n
def Qk(n:Int):Int:=IntKind.u8.wrap n
def bs(l:List UInt8):ze:=⟨⟨l⟩⟩
def QQ(s:ze)(i:Int):Int:=(s.data.getD i.toNat 0).toNat
def U1(k:IntKind)(a b:Int):Int:=k.wrap (BitVec.ofInt k.bits a &&& BitVec.ofInt k.bits b).toNat
def Zl(k:IntKind)(a b:Int):Int:=k.wrap (BitVec.ofInt k.bits a ||| BitVec.ofInt k.bits b).toNat
def R2(k:IntKind)(a b:Int):Int:=k.wrap (BitVec.ofInt k.bits a ^^^ BitVec.ofInt k.bits b).toNat
def E0(k:IntKind)(a b:Int):Int:=k.wrap (a * 2 ^ (min b.toNat k.bits))
def Z5(k:IntKind)(a b:Int):Int:=a.fdiv (2 ^ (min b.toNat k.bits))
def mD{α:Type}(t:Ty α)(l:List α):Nat:=(l.map t.c).length
def I5{α:Type}(t:Ty α)(l:List α):Int:=(mD t l:Nat)
theorem Jc{α:Type}(t:Ty α)(l:List α):I5 t l=(l.length:Int):=by simp[I5,mD]
def Ji.put{α:Type}(i z:Nat)(t:Ty α)(l:List α)(j:Nat)(y:α):Ji:=
 ⟨[.b i (some ⟨z,true,(l.map t.c).set j (t.c y)⟩)],[.b i (some ⟨z,true,(l.set j y).map t.c⟩)],by rw[List.map_set],[i],λb k h _=>by
  simp only[wG,Wr.b.injEq,zG] at h;obtain⟨_,rfl⟩:=h;exact t.data _⟩
theorem Qz.iT{γ:Gh}{w:World}{bs:zj}{u:zl}{l:Nat}{v:Value}(h:Qz γ w bs u (.QP l) v):v=.func (.yield l) #[] #[]:=by
 cases h with
 | data h=>cases h;rfl
theorem Qz.Ue{γ γ':Gh}{w w':World}{bs bs':zj}{u u':zl}(g:Qe γ w γ' w')(hp:Zf γ bs u γ' bs' u'){c:V}{v:Value}(h:Qz γ w bs u c v):okV X8 c=true->Qz γ' w' bs' u' c v:=by
 have top:∀{b},X8 b=true->X8 b=true:=λh=>h;induction h with
 | data h=>exact λ_=>.data (g.data h)
 | undef v=>exact λ_=>.undef v
 | ref b off len B o cap k h1 h2 h3 h4 h5 h6 h7=>
  intro ho;simp only[okV] at ho;obtain⟨_,_,hk⟩:=hp b (top ho);obtain⟨hu,hk⟩:=hk k h1;rcases hk with hk|⟨k',hk,hs,hr,hl⟩
  ·exact .Qp b off len _ hk hu rfl
  ·rw[<-hs];exact .ref b off len B o cap k' hk (hl.trans h2) (by grind) h4 (g.uE (by grind)) (by grind) (by grind)
 | ZC b off B k h1 h6 h2=>
  intro ho;simp only[okV] at ho;obtain⟨_,_,hk⟩:=hp b (top ho);obtain⟨hu,hk⟩:=hk k h1;rcases hk with hk|⟨k',hk,hs,hr,hl⟩
  ·exact .Qp b off 0 _ hk hu rfl
  ·exact .ZC b off B k' hk (by grind) ((hr h6).trans h2)
 | ZY b off k h1 h6 h2=>
  intro ho;simp only[okV] at ho;obtain⟨_,_,hk⟩:=hp b (top ho);obtain⟨hu,hk⟩:=hk k h1;rcases hk with hk|⟨k',hk,hs,hr,hl⟩
  ·exact .Qp b off 0 _ hk hu rfl
  ·exact .ZY b off k' hk (by grind) ((hr h6).trans h2)
 | Qp b off len v h1 h2 h3=>
  intro ho;simp only[okV] at ho;obtain⟨hu,hg,_⟩:=hp b (top ho);exact .Qp b off len v (hg h2 h1) (hu h2) h3
 | ptr b i off B o k h1 h2 h3=>
  intro ho;simp only[okV] at ho;obtain⟨_,_,hk⟩:=hp b (top ho);obtain⟨hu,hk⟩:=hk k h1;rcases hk with hk|⟨k',hk,hs,hr,hl⟩
  ·exact .QH b i off _ hk hu rfl
  ·rw[<-hs];exact .ptr b i off B o k' hk (hl.trans h2) (by grind)
 | mp b B k h1 h2 h3=>
  intro ho;simp only[okV] at ho;obtain⟨_,_,hk⟩:=hp b (top ho);obtain⟨hu,hk⟩:=hk k h1;rcases hk with hk|⟨k',hk,hs,hr,hl⟩
  ·exact .QX b _ hk hu rfl
  ·exact .mp b B k' hk (hl.trans h2) (by grind)
 | QX b v h1 h2 h3=>
  intro ho;simp only[okV] at ho;obtain⟨hu,hg,_⟩:=hp b (top ho);exact .QX b v (hg h2 h1) (hu h2) h3
 | QH b i off v h1 h2 h3=>
  intro ho;simp only[okV] at ho;obtain⟨hu,hg,_⟩:=hp b (top ho);exact .QH b i off v (hg h2 h1) (hu h2) h3
 | fn f first captured fs cs h1 h2 _ _ ih1 ih2=>
  intro ho;simp only[okV,zL] at ho;exact .fn f first captured fs cs h1 h2 (by grind [YJ]) (by grind [YJ])
 | agg cells vs h1 _ ih=>intro ho;exact .agg cells vs h1 (by grind [YJ,okV])
 | Qc cells vs h1 _ ih=>intro ho;exact .Qc cells vs h1 (by grind [YJ,okV])
def E6(n:Nat)(t:Nat->V)(b:zj):St:=⟨n,t,b,Qw⟩
theorem Qs.resume{G:zi}{γ γ':Gh}{w w':World}{n m:Nat}{t t':Nat->V}{b b':zj}{te tm:Array Value}(h:Qs G γ (E6 n t b) te w)(ht:∀i,okV X8 (t i)=true)
  (g:Qe γ w γ' w') (hp:Zf γ b Qw γ' b' Qw) (h':Qs G γ' (E6 m t' b') tm w'):Qs G γ' (E6 n t b') te w':=
 ⟨h.n,λi=>(h.t i).Ue g hp (ht i),h'.b,h'.u,h'.g,h'.o⟩
def Ks(st:St)(l:List (Nat×V)):St:=l.foldl (λst p=>st.QG p.1 p.2) st
theorem Qs.Ks{G:zi}{γ:Gh}{w:World}:∀{ps:List Nat} {cs:List V} {vs:List Value} {st:St} {ts:Array Value},Qs G γ st ts w->(∀p,p∈ps->p < st.n)->cs.length=ps.length->vs.length=ps.length->
  (∀(i:Nat) (c:V) (v:Value),cs[i]?=some c->vs[i]?=some v->Qz γ w st.b st.u c v)->Qs G γ (EV.Ks st (ps.zip cs)) ((ps.zip vs).foldl (λt p=>t.setIfInBounds p.1 p.2) ts) w
 | [],cs,vs,st,ts,h,_,_,_,_=>by simpa[EV.Ks] using h
 | p :: ps,c :: cs,v :: vs,st,ts,h,hp,h1,h2,hr=>by
  have key:Qs G γ (st.put (some p) c) ((⟨ts,[]⟩:Act).put (some p) v).tmps w:=Qs.put (a:=⟨ts,[]⟩) h (by grind [W2]) (hr 0 c v rfl rfl);exact Qs.Ks (ps:=ps) (cs:=cs) (vs:=vs) (st:=st.QG p c) key (λq hq=>hp q (by simp[hq])) (by simpa using h1) (by simpa using h2) λi c' v' hc hv=>hr (i+1) c' v' (by simpa using hc) (by simpa using hv)
 | p :: ps,[],vs,st,ts,_,_,h1,_,_=>by simp at h1
 | p :: ps,c :: cs,[],st,ts,_,_,_,h2,_=>by simp at h2
theorem Fa:∀(L:List (Nat×V)) (s:St),(Ks s L).b=s.b/\(Ks s L).u=s.u
 | [],_=>⟨rfl,rfl⟩
 | p :: L,s=>⟨(Fa L (s.QG p.1 p.2)).1,(Fa L (s.QG p.1 p.2)).2⟩
def JT(P:Program)(G:zi)(n:Nat)(t:Nat->V)(ps:List Nat)(assign body:Code)(b:zj)(cs:List V)(R:Exit->(zj)->Prop):Prop:=
 ∃st1,TV P G assign (Ks (E6 n t b) (ps.zip cs)) (λe s=>e=.normal/\QU G s st1)/\
  TV P G body st1 (λe s=>∃b' m,R e b'/\QU G s (E6 m (λ_=>.undef) b'))
def Ju:Exit->Option Code
 | .ret=>some .ret
 | .exit id=>some (.exit id)
 | _=>none
def I2(fn:FuncId)(te:Array Value)(ps:Array Tmp)(assign body:Code)(D:Nat)(e:Exit):Loop:=
 { state:=if (Ju e).isNone then .ready else .done,pending:=Ju e,fn,tmps:=te,params:=ps,assign,body,defers:=D }
structure YL where
 n:Nat
 t:Nat->V
 ps:Array Tmp
 assign:Code
 body:Code
structure Env(G:zi)(L:YL)(γ0:Gh)(w0:World)(b0:zj)(l D:Nat)(Ds:List Nat)(sz:Nat)(te:Array Value)(r:Loop)(γ:Gh)(b:zj)(u:zl)(w:World):Prop where
 jA:Qs G γ0 (E6 L.n L.t b0) te w0
 grow:Qe γ0 w0 γ w
 Ue:Zf γ0 b0 Qw γ b u
 loop:w.heap[l]?=some (.loop r)
 own:γ.own l=none
 lo:w0.heap.size<=l/\l < sz/\w0.heap.size<=sz/\sz<=w.heap.size
 dfr:∀E,E∈Ds->w.heap[E]?=some (.deferred (some []))/\γ.own E=none/\w0.heap.size<=E/\E < sz/\E≠l
def I8(sz:Nat)(γ:Gh)(w:World)(ds:List Deferred):Prop:=
 ∃Es:List Nat,ds=Es.map YQ/\Es.Nodup/\∀E,E∈Es->sz<=E/\w.heap[E]?=some (.deferred (some []))/\γ.own E=none
theorem I8.nil{sz:Nat}{γ:Gh}{w:World}:I8 sz γ w []:=⟨[],rfl,by simp,λE h=>by simp at h⟩
theorem I8.trans{sz:Nat}{γ γ':Gh}{w w':World}{ds ds':List Deferred}(h:I8 sz γ w ds)(g:Qe γ w γ' w')(k:Marks true w γ' w' ds ds')(hz:sz<=w.heap.size):I8 sz γ' w' ds':=by
 obtain⟨Es,rfl,h2,h3⟩:=h;obtain⟨Fs,_,k1,k2,k3⟩:=k;have lt:∀E,E∈Es->E < w.heap.size:=(by grind);refine⟨Fs++Es,by rw[k1];simp,List.nodup_append.2 ⟨k2,h2,λx hx y hy e=>?_⟩,λE hE=>?_⟩
 ·grind
 ·rcases ww.1 hE with hE|hE
  ·grind
  ·obtain⟨a1,a2,a3⟩:=h3 E hE;obtain⟨b1,b2,_⟩:=g.free E (lt E hE) a3;grind
theorem I8.grow{sz:Nat}{γ γ':Gh}{w w':World}{ds:List Deferred}(h:I8 sz γ w ds)(g:Qe γ w γ' w'):I8 sz γ' w' ds:=by
 obtain⟨Es,h1,h2,h3⟩:=h;refine⟨Es,h1,h2,λE hE=>?_⟩;obtain⟨a1,a2,a3⟩:=h3 E hE;obtain⟨b1,b2,_⟩:=g.free E (by grind) a3;grind
theorem I8.put{sz:Nat}{γ:Gh}{w:World}{ds:List Deferred}{l:Nat}{r:Loop}{o:Obj}(h:I8 sz γ w ds)(hl:w.heap[l]?=some (.loop r)):I8 sz γ (w.putObj l o) ds:=by
 obtain⟨Es,h1,h2,h3⟩:=h;refine⟨Es,h1,h2,λE hE=>?_⟩;grind [World.putObj_heap_other]
section
variable {P:Program} {G:zi} {L:YL} {γ0:Gh} {w0:World} {b0:zj} {l D:Nat} {Ds:List Nat} {sz:Nat} {te:Array Value} {r:Loop} {γ:Gh} {b:zj} {u:zl} {w:World}
theorem Env.step(h:Env G L γ0 w0 b0 l D Ds sz te r γ b u w){γ':Gh}{b':zj}{u':zl}{w':World}(g:Qe γ w γ' w')(hp:Zf γ b u γ' b' u'):Env G L γ0 w0 b0 l D Ds sz te r γ' b' u' w':=by
 have l1:=(wN.1 h.loop).1;refine⟨h.jA,h.grow.trans g,h.Ue.trans hp,(g.free l l1 h.own).1.trans h.loop,(g.free l l1 h.own).2.1,⟨h.lo.1,h.lo.2.1,h.lo.2.2.1,Nat.le_trans h.lo.2.2.2 g.size⟩,λE hE=>?_⟩;obtain⟨a1,a2,a3⟩:=h.dfr E hE;obtain⟨b1,b2,_⟩:=g.free E (by grind) a2;grind
theorem Env.put(h:Env G L γ0 w0 b0 l D Ds sz te r γ b u w){i:Nat}{o o':Obj}(hi:w.heap[i]?=some o)(hn:Gv o=false)(h0:w0.heap.size<=i)(hil:i≠l)(hd:∀E,E∈Ds->E≠i):Env G L γ0 w0 b0 l D Ds sz te r γ b u (w.putObj i o'):=
 ⟨h.jA,h.grow.put hi hn h0,h.Ue,(World.putObj_heap_other (Ne.symm hil)).trans h.loop,h.own,⟨h.lo.1,h.lo.2.1,h.lo.2.2.1,by rw[World.putObj_size];exact h.lo.2.2.2⟩,λE hE=>by
  obtain⟨a1,a2⟩:=h.dfr E hE;grind [World.putObj_heap_other,trans]⟩
theorem Env.record(h:Env G L γ0 w0 b0 l D Ds sz te r γ b u w)(r':Loop):Env G L γ0 w0 b0 l D Ds sz te r' γ b u (w.putObj l (.loop r')):=
 ⟨h.jA,h.grow.put h.loop rfl h.lo.1,h.Ue,World.putObj_heap_same (wN.1 h.loop).1,h.own,⟨h.lo.1,h.lo.2.1,h.lo.2.2.1,by rw[World.putObj_size];exact h.lo.2.2.2⟩,λE hE=>by
  obtain⟨a1,a2,a3,a4,a5⟩:=h.dfr E hE;grind [World.putObj_heap_other,trans]⟩
theorem GV{fn:FuncId}{ni:Nat}{ti:Nat->V}{tm:Array Value}{cs:List V}{as:Array Value}{R:Exit->(zj)->Prop}{X:Ending->World->Prop}(hs:Qs G γ (E6 ni ti b) tm w)(hti:∀i,okV X8 (ti i)=true)(ht:∀i,okV X8 (L.t i)=true)(hpn:∀p,p∈L.ps.toList->p < L.n)
  (he:Env G L γ0 w0 b0 l D Ds sz te (I2 fn te L.ps L.assign L.body D .normal) γ b Qw w) (hps:cs.length=L.ps.size) (hr:JT P G L.n L.t L.ps.toList L.assign L.body b cs R) (hR:∀e b',R e b'->e=.normal\/e=.ret\/∃id,e=.exit id)
  (ha:as.size=L.ps.size) (hcs:∀(i:Nat) (c:V) (v:Value),cs[i]?=some c->as[i]?=some v->Qz γ w b Qw c v)
  {ds:List Deferred} (hk:I8 sz γ w ds)
  (hX:∀e b' γ' w',R e b'->Env G L γ0 w0 b0 l D Ds sz te (I2 fn te L.ps L.assign L.body D e) γ' b' Qw w'->Qs G γ' (E6 ni ti b') tm w'->I8 sz γ' w' ds->(∀B,B < w.heap.size->γ.own B=none->B≠l->w'.heap[B]?=w.heap[B]?/\γ'.own B=none/\γ'.Qr B=γ.Qr B)->X (.returned (.bool (Ju e).isNone)) w') :
  RoundIn (RF none) 0 P l fn ((L.ps.zip as).foldl (λt (p,v)=>t.setIfInBounds p v) te) L.assign L.body w X:=by
 obtain⟨st1,r1,r2⟩:=hr;have e1:(L.ps.zip as).foldl (λt (p,v)=>t.setIfInBounds p v) te=(L.ps.toList.zip as.toList).foldl (λt p=>t.setIfInBounds p.1 p.2) te:=by
  rw[<-Array.foldl_toList,Array.toList_zip]
 refine roundIn_of_wpIn trivial ?_;rw[e1];have sT:Qs G γ (E6 L.n L.t b) te w:=he.jA.resume ht he.grow he.Ue hs;have h1:Qs G γ (Ks (E6 L.n L.t b) (L.ps.toList.zip cs)) ((L.ps.toList.zip as.toList).foldl (λt p=>t.setIfInBounds p.1 p.2) te) w:=
  Qs.Ks sT hpn (by grind) (by simpa using ha) λi c v hc hv=>hcs i c v hc (by simpa using hv)
 have b1:=Fa (L.ps.toList.zip cs) (E6 L.n L.t b);refine wpIn_mono (r1 ⟨some l,[],true⟩ γ ⟨_,[]⟩ w h1 ⟨rfl,rfl,λl' hl'=>by cases hl';exact⟨⟨_,he.loop⟩,he.own⟩⟩) λe a1 w1 hl=>?_;obtain⟨s1,γ1,k1,⟨k2,k2p⟩,k3,rfl,k4⟩:=hl;obtain⟨γ2,m1,m2,m3⟩:=k4 γ1 a1.tmps w1 k1;have g2:=k2.trans m2;have p2:=k2p.trans m3;rw[b1.1,b1.2] at p2;have hl1:w1.heap[l]?=some (.loop (I2 fn te L.ps L.assign L.body D .normal)):=(k2.free l (wN.1 he.loop).1 he.own).1.trans he.loop;refine⟨_,run_beginRound hl1 rfl,?_⟩;have cs1:∀o',Y4 w1 (w1.putObj l o'):=λo'=>.put hl1 rfl;have own2:γ2.own l=none:=(g2.free l (wN.1 he.loop).1 he.own).2.1;refine wpIn_mono (r2 ⟨some l,a1.defers,true⟩ γ2 a1 _ ((cs1 _).Nc m1) ⟨rfl,rfl,(by grind [World.putObj_heap_same,Array.getElem?_eq_some_iff])⟩) λe a2 w2 hl=>?_;obtain⟨s2,γ3,n1,⟨n2,n2p⟩,n3,b',m,q1,q2⟩:=hl;obtain⟨γ4,o1,o2,o3⟩:=q2 γ3 a2.tmps w2 n1;have g4:=n2.trans o2;have p4:=n2p.trans o3;have eB:=he.record { I2 fn te L.ps L.assign L.body D .normal with state:=.busy };have csw:∀o',Y4 w (w.putObj l o'):=λo'=>.put he.loop rfl;have gB:Qe γ (w.putObj l (.loop { I2 fn te L.ps L.assign L.body D .normal with state:=.busy })) γ2 (w1.putObj l (.loop { I2 fn te L.ps L.assign L.body D .normal with state:=.busy })):=by
  refine⟨g2.os,g2.tape,g2.output,by simpa using g2.size,λB o v hB hc=>?_,λB hB=>g2.Qr B (by simpa using hB),λB hB hn=>?_,λB cs e fz hc=>?_⟩
  ·have hne:B≠l:=λe=>by
    subst e;obtain⟨c1,c2,c3,hb⟩:=Hw hc;rw[World.putObj_heap_same (wN.1 he.loop).1] at hb;cases hb
   refine(cs1 _).cell (g2.Pf B o v hB ?_);grind [World.putObj_heap_other,cellAt,World.cell?]
  ·rw[World.putObj_size] at hB;obtain⟨a1,a2,a3⟩:=g2.free B hB hn;grind [World.putObj_heap_same,Array.getElem?_eq_some_iff,World.putObj_heap_other]
  ·have hne:B≠l:=λe'=>by
    subst e';rw[World.putObj_heap_same (wN.1 he.loop).1] at hc;cases hc
   rw[World.putObj_heap_other hne] at hc;obtain⟨cs',fz',c1,c2⟩:=g2.room B cs e fz hc;grind [World.putObj_heap_other]
 have gT:=gB.trans g4;have pT:Zf γ b Qw γ4 b' Qw:=p2.trans p4;have sI:Qs G γ4 (E6 ni ti b') tm w2:=((csw _).Nc hs).resume hti gT pT o1;have f1:=eB.step gT pT;have hl2:=f1.loop;have mk2:I8 sz γ4 w2 ds:=(hk.put he.loop).grow gT;have fin:∀(e:Exit),R e b'->(Instr.endRound l (Ju e)).run P w2=.ok (.bool (Ju e).isNone) (w2.putObj l (.loop (I2 fn te L.ps L.assign L.body D e)))/\X (.returned (.bool (Ju e).isNone)) (w2.putObj l (.loop (I2 fn te L.ps L.assign L.body D e))):=λe hRe=>
  ⟨run_endRound (P:=P) (Ju e) hl2,hX e b' γ4 _ hRe (f1.record _) ((Y4.put hl2 rfl).Nc sI) (mk2.put hl2) λB hB hn hne=>by
   obtain⟨q1,q2,q3⟩:=gT.free B (by simpa using hB) hn;grind [World.putObj_heap_other,trans]⟩
 rcases hR e b' q1 with rfl|rfl|⟨id,rfl⟩
 ·exact⟨_,_,fin .normal q1⟩
 ·exact⟨_,_,fin .ret q1⟩
 ·exact⟨_,_,fin (.exit id) q1⟩
theorem qS{fn:FuncId}{o:Oper}{x:Operand}{xs:Array Operand}{ts:Array TypeId}{ni:Nat}{ti:Nat->V}{a:Act}{cs:List V}{R:Exit->(zj)->Prop}{nx:Act->World->Prop}{Q:Exit->Act->World->Prop}
  (ho:o.op=.call { callee:=.value x,args:=xs,argTypes:=ts }) (hx:(E6 ni ti b).ev G x=some (.QP l)) (hcs:rO ((E6 ni ti b).ev G) xs.toList=some cs)
  (hs:Qs G γ (E6 ni ti b) a.tmps w) (hti:∀i,okV X8 (ti i)=true) (ht:∀i,okV X8 (L.t i)=true) (hpn:∀p,p∈L.ps.toList->p < L.n)
  (he:Env G L γ0 w0 b0 l D Ds sz te (I2 fn te L.ps L.assign L.body D .normal) γ b Qw w) (hps:cs.length=L.ps.size) (hr:JT P G L.n L.t L.ps.toList L.assign L.body b cs R) (hR:∀e b',R e b'->e=.normal\/e=.ret\/∃id,e=.exit id)
  (hk:I8 sz γ w a.defers) (hX:∀e b' γ' w',R e b'->Env G L γ0 w0 b0 l D Ds sz te (I2 fn te L.ps L.assign L.body D e) γ' b' Qw w'->Qs G γ' (E6 ni ti b') a.tmps w'->I8 sz γ' w' a.defers->(∀B,B < w.heap.size->γ.own B=none->B≠l->w'.heap[B]?=w.heap[B]?/\γ'.own B=none/\γ'.Qr B=γ.Qr B)->nx (a.put o.dst (.bool (Ju e).isNone)) w') :
  o.wpIn (RF none) 0 P a w nx Q:=by
 refine⟨λ_ _=>trivial,?_⟩;have hv:=(hs.ev hx).iT;have e : (execOp a.eval o) = (do let d <- Deferred.ofValue (a.eval x) (xs.map a.eval); invoke d.target d.args) := by
  unfold execOp;rw[ho];rfl
 have hm:=Kd hs hcs;have k:(xs.toList.map a.eval).toArray=xs.map a.eval:=(by grind);rw[k] at hm;have hsz:(xs.map a.eval).size=L.ps.size:=hm.1.trans hps;have hrun:(execOp a.eval o).run P w=.ok (.round l fn ((L.ps.zip (xs.map a.eval)).foldl (λt (p,v)=>t.setIfInBounds p v) te) L.assign L.body) w:=by
  rw[e,hv];have : (do let d <- Deferred.ofValue (.func (.yield l) #[] #[]) (xs.map a.eval); invoke d.target d.args : Sem Next) = Instr.yield l (xs.map a.eval) := by
   simp[Deferred.ofValue,invoke]
  rw[this];exact run_yield he.loop hsz
 show o.uponIn _ _ _ _ _ _ (((o.semAt none a.eval)).run P w);rw[Oper.semAt_none,hrun,Oper.uponIn_round];refine⟨(by grind [RF,Fence.wide]),?_⟩;exact GV hs hti ht hpn he hps hr hR hsz (λi c v hc hv=>hm.2 i c v hc hv) hk (by grind)
end
def LK(P:Program)(G:zi)(c:Code)(m:Nat)(args:Nat->List V)(bi:zj)(L:YL)(R Rp:Exit->(zj)->Prop):Prop:=
 ∀(fn:FuncId) (γ0:Gh) (w0:World) (b0:zj) (l D:Nat) (Ds:List Nat) (sz:Nat) (te:Array Value) (γ:Gh) (a:Act) (w:World),
  Env G L γ0 w0 b0 l D Ds sz te (I2 fn te L.ps L.assign L.body D .normal) γ bi Qw w->Qs G γ (U3 m (args l) bi) a.tmps w->a.defers=[]->
  CW none P c (λe a' w'=>∃e2 b' γ' ni ti tm,((e=.normal\/e=.ret)/\R e2 b'\/(∃ch,e=.panic ch)/\Rp e b')/\Env G L γ0 w0 b0 l D Ds sz te (I2 fn te L.ps L.assign L.body D e2) γ' b' Qw w'/\Qs G γ' (E6 ni ti b') tm w'/\I8 sz γ' w' a'.defers) a w
abbrev UM(P:Program)(G:zi)(c:Code)(m:Nat)(args:Nat->List V)(bi:zj)(L:YL)(R:Exit->(zj)->Prop):Prop:=LK P G c m args bi L R λ_ _=>False
theorem heap_alloc(w:World)(o:Obj)(B:Nat)(hB:B < w.heap.size):(w.alloc o).heap[B]?=w.heap[B]?:=by
 show (w.heap.push o)[B]?=_;grind
theorem Qe.alloc(γ:Gh)(w:World)(o:Obj):Qe γ w γ (w.alloc o)/\Y4 w (w.alloc o):=by
 have cs:Y4 w (w.alloc o):=⟨by simp,(by grind [Array.getElem?_eq_some_iff,heap_alloc,trans]),(by grind [Array.getElem?_eq_some_iff,heap_alloc,trans])⟩;exact⟨(Qe.refl γ w).same cs (by grind [heap_alloc]) rfl rfl rfl,cs⟩
section
variable {P:Program} {G:zi}
theorem VF{L:YL}(fn:FuncId){fx:Fx}{γ:Gh}{st:St}{a:Act}{w:World}(hs:Qs G γ st a.tmps w)(hx:UE fx γ a.defers w) :
  ∃(l D:Nat) (Ds:List Nat) (w1:World),(Instr.enterLoop fn a.tmps L.ps L.assign L.body fx.ro).run P w=.ok (l,Ds.map YQ) w1/\Ds.Nodup/\w1.heap[l]?=some (.loop (I2 fn a.tmps L.ps L.assign L.body D .normal))/\
   (Qe γ w γ w1/\Y4 w w1)/\γ.own l=none/\(w.heap.size<=l/\l < w1.heap.size)/\∀E,E∈Ds->w1.heap[E]?=some (.deferred (some []))/\γ.own E=none/\w.heap.size<=E/\E < w1.heap.size/\E≠l:=by
 have hnone:∀B,w.heap.size<=B->γ.own B=none:=λB hB=>by
  cases ho:γ.own B with
  | none=>rfl
  | some x=>have:=hs.o B x ho;omega
 cases hro:fx.ro with
 | none=>
  have hL:((w.alloc (.deferred (some []))).alloc (.loop (I2 fn a.tmps L.ps L.assign L.body w.heap.size .normal))).heap[w.heap.size+1]?=some (.loop (I2 fn a.tmps L.ps L.assign L.body w.heap.size .normal)):=by
   grind [World.alloc_heap_new,World.size_alloc,I2]
  have hD:((w.alloc (.deferred (some []))).alloc (.loop (I2 fn a.tmps L.ps L.assign L.body w.heap.size .normal))).heap[w.heap.size]?=some (.deferred (some [])):=
   (heap_alloc _ _ _ (by simp)).trans (World.alloc_heap_new w _)
  obtain⟨x1,x2⟩:=Qe.alloc γ w (.deferred (some []));obtain⟨y1,y2⟩:=Qe.alloc γ (w.alloc (.deferred (some []))) (.loop (I2 fn a.tmps L.ps L.assign L.body w.heap.size .normal));refine⟨w.heap.size+1,w.heap.size,[w.heap.size],_,run_enterLoop_outer _ _ _ _ _,by simp,hL,⟨x1.trans y1,x2.trans y2⟩,hnone _ (by omega),⟨by omega,(wN.1 hL).1⟩,λE hE=>?_⟩;simp only[wG] at hE;subst hE;exact⟨hD,hnone _ (zQ _),zQ _,(wN.1 hD).1,by omega⟩
 | some l0=>
  obtain⟨⟨r0,h0⟩,_⟩:=hx.2.2 l0 hro;have hL:=World.alloc_heap_new w (.loop (I2 fn a.tmps L.ps L.assign L.body r0.defers .normal));exact⟨w.heap.size,r0.defers,[],_,run_enterLoop_inner h0 _ _ _ _ _,by simp,hL,Qe.alloc γ w _,hnone _ (zQ _),⟨zQ _,(wN.1 hL).1⟩,λE hE=>by simp at hE⟩
end
structure YS where
 x:Exit
 st:St
def aT(G:zi)(L:YL)(l:Nat)(fn:FuncId)(γ0:Gh)(w0:World)(b0:zj)(D:Nat)(Ds:List Nat)(sz:Nat)(te:Array Value)(Q:Exit->YS->Prop)(e:Exit)(a':Act)(w':World):Prop:=
 ∃s' γ',I8 sz γ' w' a'.defers/\Env G L γ0 w0 b0 l D Ds sz te (I2 fn te L.ps L.assign L.body D s'.x) γ' s'.st.b s'.st.u w'/\Qs G γ' s'.st a'.tmps w'/\Q e s'
def YT(P:Program)(G:zi)(L:YL)(l:Nat)(c:Code)(s:YS)(Q:Exit->YS->Prop):Prop:=
 ∀(fn:FuncId) (γ0:Gh) (w0:World) (b0:zj) (D:Nat) (Ds:List Nat) (sz:Nat) (te:Array Value) (γ:Gh) (a:Act) (w:World),
  Env G L γ0 w0 b0 l D Ds sz te (I2 fn te L.ps L.assign L.body D s.x) γ s.st.b s.st.u w->Qs G γ s.st a.tmps w->I8 sz γ w a.defers->
  CW none P c (aT G L l fn γ0 w0 b0 D Ds sz te Q) a w
def pN(next:YS->Prop)(Q:Exit->YS->Prop):Exit->YS->Prop
 | .normal,s=>next s
 | e,s=>Q e s
def Ro(id:Nat)(Q:Exit->YS->Prop):Exit->YS->Prop
 | .exit id',s=>if id'=id then Q .normal s else Q (.exit id') s
 | e,s=>Q e s
section
variable {P:Program} {G:zi} {L:YL} {l:Nat} {s:YS} {Q:Exit->YS->Prop}
theorem YT.mono{c:Code}{Q':Exit->YS->Prop}(h:YT P G L l c s Q)(hq:∀e s,Q e s->Q' e s):YT P G L l c s Q':=λfn γ0 w0 b0 D Ds sz te γ a w he hs hd=>
 wpIn_mono (h fn γ0 w0 b0 D Ds sz te γ a w he hs hd) λ_ _ _ ⟨s',γ',h1,h2,h3,h4⟩=>⟨s',γ',h1,h2,h3,hq _ _ h4⟩
theorem YT.tv{c:Code}{Q1:Exit->St->Prop}(h:TV P G c s.st Q1)(hq:∀e st,Q1 e st->Q e ⟨s.x,st⟩):YT P G L l c s Q:=λfn γ0 w0 b0 D Ds sz te γ a w he hs hd=>
 wpIn_mono (h ⟨none,a.defers,true⟩ γ a w hs (UE.free γ w)) λe a' w' hl=>by
  obtain⟨st',γ',h1,⟨h2,h2p⟩,h3,h4⟩:=hl;exact⟨⟨s.x,st'⟩,γ',hd.trans h2 h3 he.lo.2.2.2,he.step h2 h2p,h1,hq e st' h4⟩
theorem YT.seq{x y:Code}(h:YT P G L l x s (pN (λs=>YT P G L l y s Q) Q)):YT P G L l (.seq x y) s Q:=λfn γ0 w0 b0 D Ds sz te γ a w he hs hd=>by
 refine wpIn_seq (wpIn_mono (h fn γ0 w0 b0 D Ds sz te γ a w he hs hd) λe a' w' hl=>?_);obtain⟨s',γ',h1,h2,h3,h4⟩:=hl;cases e with
 | normal=>exact h4 fn γ0 w0 b0 D Ds sz te γ' a' w' h2 h3 h1
 | _=>exact⟨s',γ',h1,h2,h3,h4⟩
theorem YT.cond{o:Operand}{x y:Code}{b:Bool}(hc:s.st.ev G o=some (.bool b))(h:YT P G L l (if b then x else y) s Q):YT P G L l (.cond o x y) s Q:=λfn γ0 w0 b0 D Ds sz te γ a w he hs hd=>
 wpIn_cond ((hs.ev hc).QF) (h fn γ0 w0 b0 D Ds sz te γ a w he hs hd)
theorem YT.block{id:Nat}{c:Code}(h:YT P G L l c s (Ro id Q)):YT P G L l (.block id c) s Q:=λfn γ0 w0 b0 D Ds sz te γ a w he hs hd=>by
 refine wpIn_block (wpIn_mono (h fn γ0 w0 b0 D Ds sz te γ a w he hs hd) λe a' w' hl=>?_);obtain⟨s',γ',h1,h2,h3,h4⟩:=hl;cases e with
 | exit id'=>
  simp only[Ro] at h4;simp only[Exit.inBlock];split
  ·rename_i he;rw[if_pos he] at h4;exact⟨s',γ',h1,h2,h3,h4⟩
  ·rename_i he;rw[if_neg he] at h4;exact⟨s',γ',h1,h2,h3,h4⟩
 | _=>exact⟨s',γ',h1,h2,h3,h4⟩
theorem YT.skip(h:Q .normal s):YT P G L l .skip s Q:=λ_ _ _ _ _ _ _ _ γ _ _ he hs hd=>wpIn_skip ⟨s,γ,hd,he,hs,h⟩
theorem YT.exit{id:Nat}(h:Q (.exit id) s):YT P G L l (.exit id) s Q:=λ_ _ _ _ _ _ _ _ γ _ _ he hs hd=>wpIn_exit ⟨s,γ,hd,he,hs,h⟩
theorem YT.loop{c:Code}(I:Nat->YS->Prop)(round:∀n s,I n s->YT P G L l c s (pN (λs'=>∃m,m < n/\I m s') Q)){n:Nat}(h:I n s):YT P G L l (.loop c) s Q:=λfn γ0 w0 b0 D Ds sz te γ a w he hs hd=>by
 refine RW (λn a' w'=>aT G L l fn γ0 w0 b0 D Ds sz te (λ_ s=>I n s) .normal a' w') (λn a' w' hI=>?_) n a w ⟨s,γ,hd,he,hs,h⟩;obtain⟨s',γ',h1,h2,h3,h4⟩:=hI;refine wpIn_mono (round n s' h4 fn γ0 w0 b0 D Ds sz te γ' a' w' h2 h3 h1) λe a2 w2 hl=>?_;obtain⟨s2,γ2,k1,k2,k3,k4⟩:=hl;cases e with
 | normal=>obtain⟨m,hm,hI⟩:=k4;exact⟨m,hm,s2,γ2,k1,k2,k3,hI⟩
 | _=>exact⟨s2,γ2,k1,k2,k3,k4⟩
theorem YT.XI{c:Code}{x:Exit}{st st':St}(g:QU G st st')(h:YT P G L l c ⟨x,st'⟩ Q):YT P G L l c ⟨x,st⟩ Q:=λfn γ0 w0 b0 D Ds sz te γ a w he hs hd=>by
 obtain⟨γ',h1,h2,h3⟩:=g γ a.tmps w hs;exact h fn γ0 w0 b0 D Ds sz te γ' a w (he.step h2 h3) h1 (hd.grow h2)
def J3(P:Program)(G:zi)(L:YL)(l:Nat)(ops:Array Oper)(is:List Nat)(s:YS)(Q:Exit->YS->Prop):Prop:=
 ∀(fn:FuncId) (γ0:Gh) (w0:World) (b0:zj) (D:Nat) (Ds:List Nat) (sz:Nat) (te:Array Value) (γ:Gh) (a:Act) (w:World),
  Env G L γ0 w0 b0 l D Ds sz te (I2 fn te L.ps L.assign L.body D s.x) γ s.st.b s.st.u w->Qs G γ s.st a.tmps w->I8 sz γ w a.defers->
  wpOpsIn (RF none) 0 P ops (aT G L l fn γ0 w0 b0 D Ds sz te Q) is a w
theorem YT.region{id:Nat}{ops:Array Oper}(h:J3 P G L l ops (List.range ops.size) s Q):YT P G L l (.region id ops false) s Q:=λfn γ0 w0 b0 D Ds sz te γ a w he hs hd=>wpIn_region (h fn γ0 w0 b0 D Ds sz te γ a w he hs hd)
theorem J3.nil{ops:Array Oper}(h:Q .normal s):J3 P G L l ops [] s Q:=λ_ _ _ _ _ _ _ _ γ _ _ he hs hd=>⟨s,γ,hd,he,hs,h⟩
theorem J3.XI{ops:Array Oper}{is:List Nat}{x:Exit}{st st':St}(g:QU G st st')(h:J3 P G L l ops is ⟨x,st'⟩ Q):J3 P G L l ops is ⟨x,st⟩ Q:=λfn γ0 w0 b0 D Ds sz te γ a w he hs hd=>by
 obtain⟨γ',h1,h2,h3⟩:=g γ a.tmps w hs;exact h fn γ0 w0 b0 D Ds sz te γ' a w (he.step h2 h3) h1 (hd.grow h2)
theorem HD{F:Fence}{n:Nat}{ops:Array Oper}{Q:Exit->Act->World->Prop}(js:List Nat):∀(is:List Nat) (a:Act) (w:World),wpOpsIn F n P ops (λe a w=>e=.normal/\wpOpsIn F n P ops Q js a w) is a w->wpOpsIn F n P ops Q (is++js) a w
 | [],a,w,h=>h.2
 | i :: is,a,w,h=>by
  have ih:=HD (F:=F) (n:=n) (ops:=ops) (Q:=Q) js is;simp only[wpOpsIn,List.cons_append] at h ⊢;split
  ·grind
  ·rename_i o hi;rw[hi] at h;simp only at h ⊢;split
   ·rename_i hw;rw[if_pos hw] at h;refine⟨h.1,?_⟩;have h:=h.2;unfold Oper.uponIn at h ⊢;split at h
    ·exact ih _ _ h
    ·exact ih _ _ h
    ·exact ih _ _ h
    ·refine⟨h.1,CallsIn.mono h.2 λe w' hr=>?_⟩;cases e with
     | returned v=>grind
     | panicked ch=>grind
     | outgrown=>obtain⟨a0,w0,h2⟩:=hr;grind
    ·grind [RowsIn.mono]
    ·refine⟨h.1,RoundIn.mono h.2 λe w' hr=>?_⟩;cases e with
     | returned v=>grind
     | panicked ch=>grind
     | outgrown=>obtain⟨a0,w0,h2⟩:=hr;grind
    ·grind
    grind
   grind
theorem J3.tv{ops:Array Oper}{is js:List Nat}{Q1:Exit->St->Prop}(h:U8 P G ops is s.st Q1)(hq:∀e st,Q1 e st->e=.normal/\J3 P G L l ops js ⟨s.x,st⟩ Q):J3 P G L l ops (is++js) s Q:=λfn γ0 w0 b0 D Ds sz te γ a w he hs hd=>by
 refine HD js is a w (H9 (λe a' w' hl=>?_) is a w (h ⟨none,a.defers,true⟩ γ a w hs (UE.free γ w)));obtain⟨st',γ',h1,⟨h2,h2p⟩,h3,h4⟩:=hl;obtain⟨rfl,h5⟩:=hq e st' h4;exact⟨rfl,h5 fn γ0 w0 b0 D Ds sz te γ' a' w' (he.step h2 h2p) h1 (hd.trans h2 h3 he.lo.2.2.2)⟩
theorem J3.step{ops:Array Oper}{i:Nat}{is:List Nat}{st':St}(h:stepG P G ops i s.st=some st')(hr:J3 P G L l ops is ⟨s.x,st'⟩ Q):J3 P G L l ops (i :: is) s Q:=
 J3.tv (is:=[i]) (js:=is) (Q1:=λe st=>e=.normal/\st=st') (U8.cons (ZZ h) (U8.nil ⟨rfl,rfl⟩)) (by grind)
theorem LK.of{c:Code}{m:Nat}{args:Nat->List V}{bi:zj}{R Rp:Exit->(zj)->Prop}
  (h:∀l,YT P G L l c ⟨.normal,U3 m (args l) bi⟩ (λe s=>∃ni ti b',QU G s.st (E6 ni ti b')/\((e=.normal\/e=.ret)/\R s.x b'\/(∃ch,e=.panic ch)/\Rp e b'))):LK P G c m args bi L R Rp:=λfn γ0 w0 b0 l D Ds sz te γ a w he hs hd=>
 wpIn_mono (h l fn γ0 w0 b0 D Ds sz te γ a w he hs (by rw[hd];exact I8.nil)) λe a' w' hl=>by
  obtain⟨s',γ',h1,h2,h3,ni,ti,b',h5,h6⟩:=hl;obtain⟨γ2,k1,k2,k3⟩:=h5 γ' a'.tmps w' h3;exact⟨s'.x,b',γ2,ni,ti,a'.tmps,h6,h2.step k2 k3,k1,h1.grow k2⟩
theorem UM.of{c:Code}{m:Nat}{args:Nat->List V}{bi:zj}{R:Exit->(zj)->Prop}
  (h:∀l,YT P G L l c ⟨.normal,U3 m (args l) bi⟩ (λe s=>(e=.normal\/e=.ret)/\∃ni ti b',QU G s.st (E6 ni ti b')/\R s.x b')):UM P G c m args bi L R:=
 LK.of λl=>(h l).mono (by grind)
end
def Y3(P:Program)(G:zi)(kp:List Nat)(n:Nat)(c:Code)(x:Ext){ρ:Type}(g:T P G ρ)(E:ρ->Ext):Prop:=
 (x.ok,sx P G kp 100000 ρ (.FB E) g (.inl c) [] (x.D n))=(true,g.expect (.FB E))
theorem Y3.tv{P:Program}{G:zi}{kp:List Nat}{n:Nat}{c:Code}{x:Ext}{ρ:Type}{g:T P G ρ}{E:ρ->Ext}(h:Y3 P G kp n c x g E)(hm:P.follows .mixedOrders=true){r:ρ}(hr:g.run=some r)(hE:(E r).ok=true) :
  TV P G c (x.D n).st (λe s=>e=(E r).ex/\QU G s ((E r).D n).st):=by
 simp only[Y3,zT] at h;have key:TV P G c (x.D n).st (B3 P (.FB E) r n):=Na hm 100000 _ _ _ _ _ _ _ (JH h.1) h.2 hr;refine key.mono λe s hg=>?_;obtain⟨g1,g2,g3,g4⟩:=hg;grind [ZD]
theorem U8.sK{P:Program}{G:zi}{ops:Array Oper}{Q:Exit->St->Prop}{p:Y6}{st:St}{m:Nat}(h:∀i,i < m->A7 P G ops i (H7 p st i) (p.rs i) (p.ws i))(hq:Q .normal (H7 p st m)) :
  ∀n k,k+n=m->U8 P G ops (List.range' k n) (H7 p st k) Q
 | 0,k,hk=>by
  grind [U8.nil]
 | n+1,k,hk=>by
  rw[List.range'_succ];exact U8.cons (h k (by omega) _ rfl (λl _=>O5.refl _ l)) (U8.sK h hq n (k+1) (by omega))
theorem U8.rel{P:Program}{G:zi}{ops:Array Oper}{l:List Nat}{st:St}{Q Q':Exit->St->Prop}(h:U8 P G ops l st Q')(hq:∀e s,Q' e s->Rel P G Q e s):U8 P G ops l st Q:=λfx γ a w hs hd=>
 H9 (λe a' w' hl=>by
  obtain⟨st',γ',h1,h2,h3,h4⟩:=hl;exact(hq e st' h4 ⟨fx.ro,a'.defers,fx.mx⟩ γ' a' w' h1 rfl).Lf h2 h3) l a w (h fx γ a w hs hd)
def K5(P:Program)(G:zi)(kp:List Nat)(n id:Nat)(ops:Array Oper)(m:Nat)(x:Ext){ρ:Type}(g:T P G ρ)(E:ρ->Ext):Prop:=
 (x.ok,rg P G id ops (List.range' 0 m) g (x.D n).st [] (x.D n).sy (λg s p sy=>AQ kp (x.D n) s p sy λd'=>sx P G kp 100 ρ (.FB E) g (.inr .normal) [] d') λ_ _ _ _ _=>.stuck 79)=(true,g.expect (.FB E))
theorem K5.tv{P:Program}{G:zi}{kp:List Nat}{n id:Nat}{ops:Array Oper}{m:Nat}{x:Ext}{ρ:Type}{g:T P G ρ}{E:ρ->Ext}(h:K5 P G kp n id ops m x g E)(hm:P.follows .mixedOrders=true){r:ρ}(hr:g.run=some r)(hE:(E r).ok=true) :
  U8 P G ops (List.range' 0 m) (x.D n).st (λe s=>e=(E r).ex/\QU G s ((E r).D n).st):=by
 simp only[K5,zT] at h;have hd:=JH (n:=n) h.1;rcases Ab (st0:=(x.D n).st) m g (x.D n).st [] (x.D n).sy h.2 hr ⟨rfl,λj hj=>by simp at hj⟩ hd.sy with⟨g',s,p,sy',x1,x2,x3,x4,x5⟩|⟨_,_,_,_,_,_,_,x1,_⟩
 rotate_left
 ·exact absurd x1 (Z6 _ _ _)
 simp only[List.length_nil,we] at x5;have hs:s=H7 p (x.D n).st m:=by rw[<-x5];exact x3.1
 obtain⟨d',y1,y2,y3,y4⟩:=Wu x1 (λj=>Z6 _ g' j) hd hs x4;have hq:Rel P G (B3 P (.FB E) r d'.n) .normal d'.st:=Na hm 100 _ _ _ _ _ _ _ y2 y1 x2;rw[y4] at hq;have key:=U8.sK (Q:=λe s'=>e=.normal/\s'=s) (m:=m) (λi hi=>x3.2 i (by omega)) ⟨rfl,hs.symm⟩ m 0 (by omega);refine U8.rel key λe s' he=>?_;obtain⟨rfl,rfl⟩:=he;refine(hq.forget y3).mono λs2 hg=>?_;obtain⟨g1,g2,g3,g4⟩:=hg;have f:=ZD (G:=G) (s:=s2) hE g3 g4;rw[show s2.n=n from g2] at f;grind
def Zw(ts:List (Nat×V))(i:Nat):V:=match ts.find? (λp=>p.1==i) with|some p=>p.2|none=>.undef
theorem W1{x:Ext}(h:(x.bs.all λp=>decide (1000000<=p.1))=true)(n:Nat):(x.D n).st=E6 n (Zw x.ts) (Qm x.bs):=by
 have hu:(λi=>x.us.contains i || Qw i)=Qw:=funext λi=>by
  cases hu:Qw i with
  | true=>simp
  | false=>
   simp only[Bool.or_false];refine Bool.eq_false_iff.2 λhc=>?_;simp only[Ext.us,wz,zM] at hc;obtain⟨p,hp,rfl⟩:=zP.1 hc;grind [List.all_eq_true,Qw]
 show (⟨n,Zw x.ts,Qm x.bs,λi=>x.us.contains i || Qw i⟩:St)=⟨n,Zw x.ts,Qm x.bs,Qw⟩;rw[hu]
theorem L5{u:zl}{ts:List (Nat×V)}(h:(ts.all λp=>okV u p.2)=true)(i:Nat):okV u (Zw ts i)=true:=by
 unfold Zw;cases hf:ts.find? (λp=>p.1==i) with
 | none=>rfl
 | some p=>grind
theorem Uu(n:Nat)(ts:List (Nat×V))(b:zj)(p:Nat)(c:V):Ks (E6 n (Zw ts) b) [(p,c)]=E6 n (Zw ((p,c) :: ts)) b:=by
 unfold Ks E6 Zw;simp only[List.foldl,St.QG,St.mk.injEq,true_and,and_true];grind
theorem B9{args:List V}{x:Ext}(hx:x.ts=U5 args)(hb:(x.bs.all λp=>decide (1000000<=p.1))=true)(n:Nat):(x.D n).st=U3 n args (Qm x.bs):=by
 rw[W1 hb,hx];unfold E6 U3;simp only[St.mk.injEq,true_and,and_true];exact funext λi=>He args 0 i
theorem RR{P:Program}{G:zi}{f:FuncId}{fn:Func}{c:Code}{n:Nat}{args:List V}{ins:zj}{res:V}{outs:zj}
  (hf:P.funcs[f]?=some fn) (hb:fn.body=some c) (hn:n=max fn.ntmps args.length) (hc:X5 8 res res=res) (h:TV P G c (U3 n args ins) (Pl P fn.results.toList res outs)):QR P G f args ins res outs:=
 Mt hf hb hn λγ a w hs hd=>wpIn_mono (h ⟨none,[],true⟩ γ a w hs ⟨hd,rfl,λ_ h=>by simp at h⟩) (by grind)
theorem YT.piece{P:Program}{G:zi}{L:YL}{l:Nat}{kp:List Nat}{n:Nat}{c:Code}{x:Ext}{ρ:Type}{g:T P G ρ}{E:ρ->Ext}{y:Exit}{Q:Exit->YS->Prop}
  (h:Y3 P G kp n c x g E) (hm:P.follows .mixedOrders=true) {r:ρ} (hr:g.run=some r) (hE:(E r).ok=true) (hq:∀s,QU G s ((E r).D n).st->Q (E r).ex ⟨y,s⟩):YT P G L l c ⟨y,(x.D n).st⟩ Q:=
 YT.tv (h.tv hm hr hE) (by grind)
def sh(b:Nat):Nat:=1000000+b
def un(b:Nat):Nat:=(b / 1000000 - 1) * 1000000+b % 1000000
theorem Uz(b:Nat):un (sh b)=b:=by unfold un sh;omega
theorem pV{b:Nat}(h:1000000<=b):sh (un b)=b:=by unfold un sh;omega
theorem KK(b:Nat):1000000<=sh b:=by unfold sh;omega
attribute [irreducible] sh un
theorem BS{b:Nat}(h:1000000<=b):Qw b=true:=by unfold Qw;grind
theorem LC(b:Nat):Qw (sh b)=true:=BS (KK b)
mutual
theorem Lq(s:Nat->Nat):∀c:V,K1 (W3 s c)=(K1 c).map s
 | .ref b o l=>rfl
 | .ptr b i o=>rfl
 | .mp b=>rfl
 | .fn f a c=>by simp only[W3,K1,wW];rw[YO s a,YO s c]
 | .agg l=>by simp only[W3,K1];exact YO s l
 | .Qc l=>by simp only[W3,K1];exact YO s l
 | .int _ _=>rfl
 | .bool _=>rfl
 | .str _=>rfl
 | .Zi=>rfl
 | .Zd=>rfl
 | .QP _=>rfl
 | .Qu=>rfl
 | .Zu _=>rfl
 | .sl _ _ _=>rfl
 | .snap _=>rfl
 | .undef=>rfl
theorem YO(s:Nat->Nat):∀l:List V,D0 (S9 s l)=(D0 l).map s
 | []=>rfl
 | c :: l=>by simp only[S9,D0,wW];rw[Lq s c,YO s l]
end
mutual
theorem OV(s r:Nat->Nat)(h:∀b,s (r b)=b):∀c:V,W3 s (W3 r c)=c
 | .ref b o l=>by simp[W3,h]
 | .ptr b i o=>by simp[W3,h]
 | .mp b=>by simp[W3,h]
 | .fn f a c=>by simp only[W3];rw[YI s r h a,YI s r h c]
 | .agg l=>by simp only[W3];rw[YI s r h l]
 | .Qc l=>by simp only[W3];rw[YI s r h l]
 | .int _ _=>rfl
 | .bool _=>rfl
 | .str _=>rfl
 | .Zi=>rfl
 | .Zd=>rfl
 | .QP _=>rfl
 | .Qu=>rfl
 | .Zu _=>rfl
 | .sl _ _ _=>rfl
 | .snap _=>rfl
 | .undef=>rfl
theorem YI(s r:Nat->Nat)(h:∀b,s (r b)=b):∀l:List V,S9 s (S9 r l)=l
 | []=>rfl
 | c :: l=>by simp only[S9];rw[OV s r h c,YI s r h l]
end
theorem Qd.uO(s r:Nat->Nat)(h:∀b,s (r b)=b)(k:Qd):(k.Qb r).Qb s=k:=by
 obtain⟨z,e,rows⟩:=k;simp only[Qd.Qb,qe];congr 1;have:(S9 s ∘ S9 r)=id:=funext λl=>YI s r h l;simp_all
def QZ(b:zj)(i:Nat):Option Qd:=if 1000000<=i then (b (un i)).map (Qd.Qb sh) else none
theorem C4(b:zj)(i:Nat):QZ b (sh i)=(b i).map (Qd.Qb sh):=by
 unfold QZ;rw[if_pos (KK _),Uz]
def St.shift(st:St):St:=E6 st.n (λi=>W3 sh (st.t i)) (QZ st.b)
def M3.sh:M3->M3
 | .Zs b=>.Zs (EV.sh b)
 | .nest b i j=>.nest (EV.sh b) i j
def Gh.shift(γ:Gh):Gh where
 loc:=λi=>if 1000000<=i then γ.loc (un i) else none
 own:=λB=>(γ.own B).map M3.sh
 Qr:=γ.Qr
theorem Qs.shift{G:zi}{γ:Gh}{st:St}{tmps:Array Value}{w:World}(hs:Qs G γ st tmps w):Qs G γ.shift st.shift tmps w:=by
 have loc:∀b,γ.shift.loc (sh b)=γ.loc b:=λb=>by simp only[Gh.shift];rw[if_pos (KK _),Uz]
 have tr:∀b,Tr γ st.b st.u γ.shift (QZ st.b) Qw sh b:=λb=>by
  refine⟨λk hk=>⟨k.Qb sh,by rw[C4,hk];rfl,rfl,by simp[Qd.Qb],loc b⟩,(by grind [C4,LC])⟩
 refine⟨hs.n,λi=>Qz.Qb (γ1:=γ) (γ2:=γ.shift) (w:=w) (w':=w) (bs1:=st.b) (u1:=st.u) (bs2:=QZ st.b) (u2:=Qw) (s:=sh) (λB o v h1 h2=>⟨h1,h2⟩) (λ_ _ h=>h) (hs.t i) (λb _=>tr b),λb k hk=>?_,λb k hk=>?_,hs.g,λB x hx=>?_⟩
 ·have hk':QZ st.b b=some k:=hk;unfold QZ at hk';split at hk'
  ·rename_i hb;obtain⟨k0,h0,rfl⟩:=zJ.1 hk';have:=(hs.b _ _ h0).Qb (γ2:=γ.shift) (bs2:=QZ st.b) (u2:=Qw) (s:=sh) (loc _) (λ_=>rfl) (λB hB=>by simp only[Gh.shift,hB];rfl) (λB i j hB=>by simp only[Gh.shift,hB];rfl) (λb' _=>tr b');rw[pV hb] at this;exact this
  ·simp at hk'
 ·have hk':QZ st.b b=some k:=hk;unfold QZ at hk';split at hk'
  ·rename_i hb;exact BS hb
  ·simp at hk'
 ·simp only[Gh.shift] at hx;obtain⟨y,hy,_⟩:=zJ.1 hx;exact hs.o B y hy
def M3.un:M3->Option M3
 | .Zs b=>if 1000000<=b then some (.Zs (EV.un b)) else none
 | .nest b i j=>if 1000000<=b then some (.nest (EV.un b) i j) else none
def Gh.Qo(γ:Gh):Gh where
 loc:=λi=>γ.loc (sh i)
 own:=λB=>(γ.own B).bind M3.un
 Qr:=γ.Qr
structure St.known(st:St):Prop where
 t:∀i,∀b,b∈K1 (st.t i)->st.u b=true
 b:∀i k,st.b i=some k->st.u i=true/\∀b,b∈D0 k.rows.flatten->st.u b=true
theorem Qs.Qo{G:zi}{γ:Gh}{st:St}{tmps:Array Value}{w:World}(hs:Qs G γ st.shift tmps w)(hk:st.known):Qs G γ.Qo st tmps w:=by
 have tr:∀b0,st.u b0=true->Tr γ (QZ st.b) Qw γ.Qo st.b st.u un (sh b0):=λb0 hu=>by
  rw[Tr,Uz,C4];refine⟨λk h=>?_,λh _=>⟨by simpa using h,hu⟩⟩;obtain⟨k0,h0,rfl⟩:=zJ.1 h;exact⟨k0,h0,rfl,by simp[Qd.Qb],rfl⟩
 have ownB:∀B b0,γ.own B=some (.Zs (sh b0))->γ.Qo.own B=some (.Zs b0):=λB b0 h=>by
  simp_all [qf,if_pos,KK,Uz,Gh.Qo,M3.un]
 have ownN:∀B b0 i j,γ.own B=some (.nest (sh b0) i j)->γ.Qo.own B=some (.nest b0 i j):=λB b0 i j h=>by
  simp_all [qf,if_pos,KK,Uz,Gh.Qo,M3.un]
 refine⟨hs.n,λi=>?_,λb k hb=>?_,λb k hb=>(hk.b b k hb).1,hs.g,λB x hx=>?_⟩
 ·have h0:Qz γ w (QZ st.b) Qw (W3 sh (st.t i)) (tmps.getD i undef):=hs.t i;have h1:=Qz.Qb (γ1:=γ) (γ2:=γ.Qo) (w:=w) (w':=w) (bs1:=QZ st.b) (u1:=Qw) (bs2:=st.b) (u2:=st.u) (s:=un) (λB o v h1 h2=>⟨h1,h2⟩) (λ_ _ h=>h) h0 (λb hb=>by
   rw[Lq] at hb;obtain⟨b0,hb0,rfl⟩:=zP.1 hb;exact tr b0 (hk.t i b0 hb0))
  grind [OV,Uz,un,sh]
 ·have hsb:QZ st.b (sh b)=some (k.Qb sh):=by rw[C4,hb];rfl
  have h0:X3 γ w (QZ st.b) Qw (sh b) (k.Qb sh):=hs.b (sh b) _ hsb;have h1:=h0.Qb (γ2:=γ.Qo) (bs2:=st.b) (u2:=st.u) (s:=un) (by show γ.loc (sh (un (sh b)))=_;rw[Uz]) (λ_=>rfl) (by grind [Uz]) (by grind [Uz])
   (λb' hb'=>by
    have:D0 (k.Qb sh).rows.flatten=(D0 k.rows.flatten).map sh:=by
     show D0 ((k.rows.map (S9 sh)).flatten)=_;rw[Jr,YO]
    rw[this] at hb';obtain⟨b0,hb0,rfl⟩:=zP.1 hb';exact tr b0 ((hk.b b k hb).2 b0 hb0))
  grind [Uz,Qd.uO,un,sh]
 ·simp only[Gh.Qo] at hx;obtain⟨y,hy,_⟩:=wq.1 hx;exact hs.o B y hy
theorem L7.Qo{G:zi}{fx:Fx}{γ:Gh}{st:St}{w:World}{Q:Exit->St->Prop}{e:Exit}{a:Act}{w':World}
  (h:L7 G fx γ.shift st.shift w (λe s=>∃s',s=s'.shift/\s'.u=st.u/\s'.known/\Q e s') e a w') (hsu:∀b k,st.b b=some k->st.u b=true):L7 G fx γ st w Q e a w':=by
 obtain⟨_,γ1,h1,⟨h2,h3⟩,⟨Ds,m0,m1,m2,m3⟩,s',rfl,hu,hk,hq⟩:=h;have none1:∀B,γ1.own B=none->γ1.Qo.own B=none:=(by grind [Gh.Qo]);refine⟨s',γ1.Qo,h1.Qo hk,⟨⟨h2.os,h2.tape,h2.output,h2.size,h2.Pf,h2.Qr,λB hB hn=>?_,h2.room⟩,λb hb=>?_⟩,⟨Ds,m0,m1,m2,(by grind)⟩,hq⟩
 ·obtain⟨a1,a2,a3⟩:=h2.free B hB (by grind [Gh.shift]);exact⟨a1,none1 B a2,a3⟩
 ·obtain⟨p1,p2,p3⟩:=h3 (sh b) (by simp_all [zL,zM,KK,X8,sh]);refine⟨(by grind),λh hn=>?_,λk hk'=>⟨?_,?_⟩⟩
  ·have:=p2 (LC b) (by show QZ st.b (sh b)=none;rw[C4,hn];rfl);have h0:QZ s'.b (sh b)=none:=this;simp_all [C4]
  ·grind
  ·obtain⟨_,q⟩:=p3 (k.Qb sh) (by show QZ st.b (sh b)=_;rw[C4,hk'];rfl);rcases q with q|⟨k',q1,q2,q3,q4⟩
   ·have h0:QZ s'.b (sh b)=none:=q;simp_all [C4]
   ·have h0:QZ s'.b (sh b)=some k':=q1;rw[C4] at h0;obtain⟨k0,h00,rfl⟩:=zJ.1 h0;refine .inr ⟨k0,h00,q2,by simpa[Qd.Qb] using q3,?_⟩;have q4:γ1.loc (sh b)=γ.shift.loc (sh b):=q4;simp only[Gh.shift] at q4;rw[if_pos (KK _),Uz] at q4;exact q4
theorem AS(p:Nat×Qd)(l:List (Nat×Qd))(i:Nat):Qm (p :: l) i=if p.1=i then some p.2 else Qm l i:=by
 unfold Qm;grind
theorem UO:∀l:List (Nat×Qd),QZ (Qm l)=Qm (l.map λp=>(sh p.1,p.2.Qb sh))
 | []=>funext λi=>by simp_all [QZ,Qm]
 | p :: l=>funext λi=>by
  have ih:=congrFun (UO l) i;rw[wE,AS];unfold QZ at ih ⊢;rw[AS];by_cases h:sh p.1=i
  ·subst h;rw[if_pos rfl,if_pos (KK _),Uz,if_pos rfl];rfl
  ·rw[if_neg h];by_cases hi:1000000<=i
   ·rw[if_pos hi] at ih ⊢;have:¬p.1=un i:=(by grind [pV]);grind
   grind
theorem yP(p:Nat×V)(l:List (Nat×V))(i:Nat):Zw (p :: l) i=if p.1=i then p.2 else Zw l i:=by
 unfold Zw;grind
theorem Zv:∀l:List (Nat×V),(λi=>W3 sh (Zw l i))=Zw (l.map λp=>(p.1,W3 sh p.2))
 | []=>rfl
 | p :: l=>funext λi=>by
  have ih:=congrFun (Zv l) i;grind [yP]
theorem Ur(x:Ext)(n:Nat):(x.D n).st.shift=E6 n (Zw (x.ts.map λp=>(p.1,W3 sh p.2))) (Qm (x.bs.map λp=>(sh p.1,p.2.Qb sh))):=by
 rw[<-Zv,<-UO];rfl
end Go.EV
