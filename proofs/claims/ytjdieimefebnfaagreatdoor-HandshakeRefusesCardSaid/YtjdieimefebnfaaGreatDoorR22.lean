/- What the law's own handshake comes to: the three steps with keys. The law's own handshake goes as the chapter says: `works` is true. The law of Hands ..; no conditions. -/
import Derived.Test.YtjdieimefebnfaaGreatDoorR21
import Derived.Test.YtjdieimefebnfaaGreatDoorR20
import Derived.Test.YtjdieimefebnfaaGreatDoorR18
import Derived.Test.YtjdieimefebnfaaGreatDoorR11
import Derived.Test.YtjdieimefebnfaaGreatDoorR8
import Derived.Test.YtjdieimefebnfaaGreatDoorRows
import Derived.ChangeSame
import Derived.ChangeVars
import Derived.JoinedOf
import Derived.RowKit
import Derived.ProofKit
import Derived.LaidMore
import Derived.Lay
import Derived.OpenShut
import Derived.Carry
import Derived.Stop.Joined
import Derived.Lib.LaidU8
import Derived.ChangeArms
import Derived.DataReads
import Derived.SevenTiedAt
import Derived.KernelRfl
set_option linter.unusedVariables false
set_option linter.unusedSimpArgs false
set_option maxRecDepth 100000
namespace Go.Proofs.YtjdieimefebnfaaGreatDoor
open Go Go.EV
theorem stepOf(s:Q2)(v:Q6)(h1:QZ s=true)(h2:dM s v=true):U3 s v=Oi { s with fk:=v.fk } (HY { s with fk:=v.fk } v):=by unfold U3;rw[h1,h2];rfl
theorem Qx1:Rl (UM++Ko |> λ_=>bB++bS) (UM++Ko) nY=Uq:=by
 unfold Rl;rw[J2 wf5,J2 wf6]
theorem Qus:FM bB bS UM Ko=Uq:=Qx1
theorem pX:O7 Uq Ks (Dt++K9)=ZU wK2 wH1:=by
 unfold O7 Rl;rw[J2 wf7,J2 wf8,J2 Qdv]
theorem pD:O7 Uq DC XI=JV:=by
 unfold O7 Rl;rw[J2 wf7,J2 wf9,J2 Qdc,J2 Qdb]
theorem wNz:¬(bB=MZ\/bS=MZ):=of_decide_eq_false Qdn
theorem Qua:(QI K9).fH=K9.extract 23 55:=J2 (by kernel_rfl)
theorem Qux:(QI I6).fH=I6.extract 23 55:=J2 (by kernel_rfl)
theorem Qx3:X5 iU YI=.inl (iJ,[⟨4,2,V2⟩]):=by
 have eM:Dr iU YI=Uq:=by
  unfold Dr;rw[J2 Qun,J2 Qug,J2 Quf,Qux];show FM (xS MH _) (xS YO _) UM Ko=_;rw[J2 wf1,J2 wf2];exact Qus
 have eT:WW iU YI=Dt:=J2 Qds
 have eB:Hd iU YI=V2:=by
  unfold Hd;rw[eM,eT];show O7 Uq Ks (Dt++K9)++K9=_;rw[pX];exact J2 Qdt
 unfold X5;rw[eM,eT,eB,J2 Qun,J2 Qug,J2 Quf,Qdo,Qux,J2 Qup];show (if ¬64 < YI.size then _ else if true=false then _ else if T8 (QI I6) [EZ] 1000≠0 then _ else if xS MH (I6.extract 23 55)=MZ\/xS YO GF=MZ then _ else _)=_;rw[Qdp,J2 wf1,J2 wf2,if_neg (by decide),if_neg (by decide),if_neg (by decide),if_neg wNz];rfl
theorem Qx0:F8 iY V2=.inl (wS3,[⟨5,2,JV⟩]):=by
 have eM:Kn iY V2=Uq:=by
  unfold Kn;rw[J2 Qul,Qua];show FM (xS HE GO) (xS IL _) UM Ko=_;rw[J2 wf3,J2 wf4];exact Qus
 have eT:Me iY V2=XI:=J2 Qup
 have eC:Hb iY V2=JV:=by
  unfold Hb;rw[eM,eT];exact pD
 unfold F8;rw[eM,eT,eC,J2 Qul,Qdi,Qua,J2 Qur];show (if ¬32 < V2.size then _ else if true=false then _ else if T8 (QI K9) [DB] 1000≠0 then _ else if xS HE GO=MZ\/xS IL (K9.extract 23 55)=MZ then _ else if V2.extract 0 32≠O7 Uq Ks (Dt++K9) then _ else _)=_;rw[Qdr,J2 wf3,J2 wf4,if_neg (by decide),if_neg (by decide),if_neg (by decide),if_neg wNz,if_neg (by rw[pX];exact λh=>h (J2 Qda).symm)];rfl
theorem Qx2:JQ iJ JV=.inl (wC4,[]):=by
 unfold JQ;rw[if_neg (by decide),if_neg (λh=>h pD.symm)];show Sum.inl (({ iJ with fD:=XI++Jm 5 JV,fo:=6,fM:=[],fy:=oW }:Q2),([]:List Z0))=_;rw[J2 Qur];rfl
theorem wk6:U3 iU ⟨2,1000,bs [120],⟨3,1,YI⟩⟩=(iJ,[⟨4,2,V2⟩],0):=by
 rw[stepOf _ _ Qdg (by kernel_rfl)];have e:HY { iU with fk:=1000 } ⟨2,1000,bs [120],⟨3,1,YI⟩⟩=X5 iU YI:=by
  unfold HY;rw[if_neg (by decide),if_pos (by decide)];unfold H5;rw[if_neg (by decide),if_pos (by decide)];rfl
 show Oi _ (HY { iU with fk:=1000 } _)=_;rw[e,Qx3];rfl
theorem wk7:U3 iY ⟨2,1000,bs [102,97,114],⟨4,2,V2⟩⟩=(wS3,[⟨5,2,JV⟩],0):=by
 rw[stepOf _ _ Qdf (by kernel_rfl)];have e:HY { iY with fk:=1000 } ⟨2,1000,bs [102,97,114],⟨4,2,V2⟩⟩=F8 iY V2:=by
  unfold HY;rw[if_neg (by decide),if_pos (by decide)];unfold H5;rw[if_neg (by decide),if_neg (by decide),if_neg (by decide),if_neg (by decide),if_pos (by decide)];rfl
 show Oi _ (HY { iY with fk:=1000 } _)=_;rw[e,Qx0];rfl
theorem wk8:U3 iJ ⟨2,1000,zg,⟨5,2,JV⟩⟩=(wC4,[],0):=by
 rw[stepOf _ _ Qdl (by kernel_rfl)];have e:HY { iJ with fk:=1000 } ⟨2,1000,zg,⟨5,2,JV⟩⟩=JQ iJ JV:=by
  unfold HY;rw[if_neg (by decide),if_pos (by decide)];unfold H5;rw[if_neg (by decide),if_neg (by decide),if_pos (by decide)];rfl
 show Oi _ (HY { iJ with fk:=1000 } _)=_;rw[e,Qx2];rfl
theorem yV{α:Type}{s:EV.Spec Tryz.prog GG α}{g:TT α}{Q:α->Prop}(h:s.o=g.run)(k:Ok g Q):Qy s Q:=let ⟨r,h1,h2⟩:=k;⟨r,h.trans h1,h2⟩
theorem uN(a:Int)(b c d:ze)(e:List ze):(Ni a b c d e).o=(CE a b c d e).run:=rfl
theorem SH(b:Z6)(hv:G1 b=true):Qy (cC b) (λr=>r=(W9 (YN (K2 b)),0)):=by
 grind [oF,Qy.fn,Ok.c,Wm,Ok.f,AE,Ok.d,cC,g47]
theorem newEq{side now:Int}{sec bdg fr rn ck k:ze}{ps:List ze}(h:QZ (Je side sec bdg fr rn ck ps now)=true)(h1:(QI bdg).fH=k)(h2:xS sec V4=k):FW side sec bdg fr rn ck ps now=(Je side sec bdg fr rn ck ps now,0):=by
 unfold FW;rw[h,h1,h2,we rfl];rfl
def Qhv(s:Q2)(p:ze):Bool×ze×Int×Int×Int×ze×ze×ze×ze×ze×(List ze)×Int×ze×ze×ze×ze×ze×(List Z0)×Int×Int×Int×Int:=
 (true,p,s.fq,s.fo,s.fk,s.gc,s.fh,s.fZ,s.fA,s.gb,s.fJ,s.fm,s.fD,s.fj.fA,s.fj.fQ,s.fj.fh,s.fF,s.fM,s.fy.fE,s.fy.fY,s.fy.fL,s.ga)
theorem vCb:G1 ⟨bs [99],K9.extract 23 55,0,100000,7⟩=true:=wv8
theorem vSb:G1 ⟨bs [115],I6.extract 23 55,0,100000,7⟩=true:=wv9
theorem eCb:K2 ⟨bs [99],K9.extract 23 55,0,100000,7⟩=K9:=J2 wv6
theorem eSb:K2 ⟨bs [115],I6.extract 23 55,0,100000,7⟩=I6:=J2 wv7
theorem Qz3:Qy (s80 1 (bs [99]) (bs [7]) zg []) (λr=>r=(wA,DB,true)):=by
 unfold s80;refine Qy.fn ?_;unfold g80;refine Ok.c (Qy.o wu1) λr hr=>Ok.c (Uf r) λr2 hr2=>?_;subst hr;rw[if_pos (by decide),J2 wv4] at hr2;subst hr2;refine Ok.c (FZ ⟨bs [99],K9.extract 23 55,0,100000,7⟩) λr hr=>Ok.c (SH ⟨bs [99],K9.extract 23 55,0,100000,7⟩ vCb) λr2 hr2=>?_;rw[if_pos vCb,eCb] at hr;rw[eCb,J2 Quo] at hr2;subst hr hr2;refine Ok.k (by decide) (Ok.c (Qy.o wu4) λr hr=>Ok.k (by decide) (Ok.c (Qy.o wu5) λr2 hr2=>?_));subst hr hr2;refine Ok.c (SU 1 YO K9 MH UM zg [] 1000 (G4 (s:=wA) wv1).sm) λr hr=>?_;rw[newEq (k:=K9.extract 23 55) wv1 (J2 Qui) (J2 wv4)] at hr;subst hr;exact Ok.t rfl (Ok.t rfl (Ok.t rfl (Ok.d rfl)))
theorem Qz1:Qy (Ni 2 (bs [115]) (bs [5]) GI [DB]) (λr=>r=Qhv wS EZ):=by
 refine yV (uN _ _ _ _ _) ?_;unfold CE;refine Ok.c (Qy.o wu2) λr hr=>Ok.c (Uf r) λr2 hr2=>?_;subst hr;rw[if_pos (by decide),J2 wv5] at hr2;subst hr2;refine Ok.c (FZ ⟨bs [115],I6.extract 23 55,0,100000,7⟩) λr hr=>Ok.c (SH ⟨bs [115],I6.extract 23 55,0,100000,7⟩ vSb) λr2 hr2=>?_;rw[if_pos vSb,eSb] at hr;rw[eSb,J2 Qdw] at hr2;subst hr hr2;refine Ok.g (Ok.k (by decide) (Ok.c (Qy.o wu6) λr hr=>Ok.k (by decide) (Ok.c (Qy.o wu7) λr2 hr2=>?_)));subst hr hr2;refine Ok.c (SU 2 HE I6 IL Ko GI [DB] 1000 (G4 (s:=wS) wv2).sm) λr hr=>?_;rw[newEq (k:=I6.extract 23 55) wv2 (J2 Qdh) (J2 wv5)] at hr;subst hr;exact Ok.t rfl (Ok.t rfl (Ok.t rfl (Ok.d rfl)))
theorem Qz2:Qy (Ni 1 (bs [99]) (bs [7]) zg [EZ]) (λr=>r=Qhv wC DB):=by
 refine yV (uN _ _ _ _ _) ?_;unfold CE;refine Ok.c (Qy.o wu1) λr hr=>Ok.c (Uf r) λr2 hr2=>?_;subst hr;rw[if_pos (by decide),J2 wv4] at hr2;subst hr2;refine Ok.c (FZ ⟨bs [99],K9.extract 23 55,0,100000,7⟩) λr hr=>Ok.c (SH ⟨bs [99],K9.extract 23 55,0,100000,7⟩ vCb) λr2 hr2=>?_;rw[if_pos vCb,eCb] at hr;rw[eCb,J2 Quo] at hr2;subst hr hr2;refine Ok.g (Ok.k (by decide) (Ok.c (Qy.o wu4) λr hr=>Ok.k (by decide) (Ok.c (Qy.o wu5) λr2 hr2=>?_)));subst hr hr2;refine Ok.c (SU 1 YO K9 MH UM zg [EZ] 1000 (G4 (s:=wC) wv3).sm) λr hr=>?_;rw[newEq (k:=K9.extract 23 55) wv3 (J2 Qui) (J2 wv4)] at hr;subst hr;exact Ok.t rfl (Ok.t rfl (Ok.t rfl (Ok.d rfl)))
theorem Qzj:Qy s39 (λr=>r=(wC,wS,true)):=by
 have key:Ok g39 (λr=>r=(wC,wS,true)):=by
  unfold g39;refine Ok.c (Qy.o wu3) λr hr=>Ok.c Qz3 λr2 hr2=>?_;subst hr hr2;refine Ok.c Qz1 λr hr=>?_;subst hr;refine Ok.c Qz2 λr hr=>?_;subst hr;exact Ok.t rfl (Ok.t rfl (Ok.d rfl))
 grind [oF,Qy.fn,k39,s39]
theorem EN{s s2:Q2}{f:ze}{n m:Z0}(hs:Sm s)(h:U3 s ⟨2,s.fk,f,n⟩=(s2,[m],0)):Qy (pB s f n) (λr=>r=(s2,m,true)):=by
 unfold pB;refine Qy.fn ?_;unfold g40;refine Ok.c (ZF s _ hs) λr hr=>?_;rw[h] at hr;subst hr;exact Ok.n (R:=λc=>c=false) (Ok.f rfl (Ok.d rfl)) λc hc=>Ok.f hc (Ok.r rfl rfl (Ok.d rfl))
theorem jQ{s s2:Q2}{v:Q6}{l:List Z0}{e:Int}(h:U3 s v=(s2,l,e)):Sm s2:=by
 have z:=(oJ s v).1;rw[h] at z;exact z.sm (by decide)
theorem lG:Qy s14 (λr=>r=true):=by
 have q1:U3 wC ⟨1,1000,zg,⟨0,0,zg⟩⟩=_:=JI wk1
 have q2:=JI wk2
 have q3:=JI wk3
 have q4:=JI wk4
 have q5:=JI wk5
 have q9:U3 iH ⟨3,1399,zg,⟨0,0,zg⟩⟩=_:=JI wk9
 have q10:U3 iH ⟨3,1400,zg,⟨0,0,zg⟩⟩=_:=JI Qdx
 have q11:U3 wS ⟨1,1000,zg,⟨0,0,zg⟩⟩=_:=JI Qdd
 have q12:=JI Qde
 have q13:=JI Qdm
 have mC:=(G4 wv3).sm
 have mS:=(G4 wv2).sm
 have mC1:=jQ q1
 have mS1:=jQ q2
 have mC2:=jQ q3
 have mS2:=jQ q4
 have mC3:=jQ wk6
 have key:Ok g14 (λr=>r=true):=by
  unfold g14;refine Ok.c Qzj λr hr=>?_;subst hr;refine Ok.f rfl (Ok.c (ZF wC _ mC) λr hr=>?_);rw[q1] at hr;subst hr;refine Ok.n (R:=λc=>c=false) (Ok.f rfl (Ok.f rfl (Ok.f rfl (Ok.r rfl rfl (Ok.f rfl (Ok.r rfl rfl (Ok.f rfl (Ok.r rfl rfl (Ok.d rfl))))))))) λc hc=>Ok.f hc (Ok.r rfl rfl ?_);refine Ok.c (EN mS q2) λr hr=>?_;subst hr;refine Ok.c (EN mC1 q3) λr hr=>?_;subst hr;refine Ok.c (EN mS1 q4) λr hr=>?_;subst hr;refine Ok.c (EN mS1 q5) λr hr=>?_;subst hr;refine Ok.c (EN mC2 wk6) λr hr=>?_;subst hr;refine Ok.c (EN mS2 wk7) λr hr=>?_;subst hr;refine Ok.n (R:=λc=>c=false) (Ok.f rfl (Ok.f rfl (Ok.f rfl (Ok.f rfl (Ok.f rfl (Ok.d rfl)))))) λc hc=>Ok.f hc ?_;refine Ok.c (ZF iJ _ mC3) λr hr=>?_;rw[wk8] at hr;subst hr;refine Ok.n (R:=λc=>c=true) ?_ λc1 h1=>Ok.n (R:=λc=>c=true) ?_ λc2 h2=>?_
  ·iterate 18 refine Ok.t rfl ?_
   exact Ok.d rfl
  ·exact Ok.t rfl (Ok.t rfl (Ok.t rfl (Ok.t (by decide) (Ok.t (by decide) (Ok.t (by decide) (Ok.t (by decide) (Ok.d (by decide))))))))
  refine Ok.c (ZF iH _ mC1) λr hr=>?_;rw[q9] at hr;subst hr;refine Ok.c (ZF iH _ mC1) λr hr=>?_;rw[q10] at hr;subst hr;refine Ok.n (R:=λc=>c=true) ?_ λc3 h3=>?_
  ·exact Ok.t rfl (Ok.t rfl (Ok.t rfl (Ok.t rfl (Ok.t rfl (Ok.r rfl rfl (Ok.r rfl rfl (Ok.t (by decide) (Ok.d rfl))))))))
  refine Ok.c (ZF wS _ mS) λr hr=>?_;rw[q11] at hr;subst hr;refine Ok.c (ZF wS _ mS) λr hr=>?_;rw[q12] at hr;subst hr;refine Ok.k (by decide) (Ok.c (ZF iH _ mC1) λr hr=>?_);rw[q13] at hr;subst hr;exact Ok.n (R:=λc=>c=true) (Ok.t h1 (Ok.t h2 (Ok.t h3 (Ok.t rfl (Ok.t rfl (Ok.d rfl)))))) λc hc=>Ok.d hc
 grind [oF,Qy.fn,k14,s14]
abbrev DlR:=List Z0×List Z0×Q2×Bool
theorem GQ{ρ:Type}{Q:ρ->Prop}{a1 a2:Nat}{L1 L2 L3 L4:List (Nat×Nat)}{c s s' c':Q2}{n:Int}{q0 q1 q0' q1' q2 q3:List Z0}{k:DlR->DlR->TT ρ}(hc:QZ c=true)(hs:QZ s=true)(l0:q0.length<=100000)(l1:q1'.length<=100000)
  (e1:sD s n true q1 q0=(q1',q0',s',true)) (e2:sD c n true q0' q1'=(q2,q3,c',true)) (h:Ok (k (q0',q1',s',true) (q2,q3,c',true)) Q) :
  Ok (.call a1 (HC c s n true q0 q1) L1 L2 λr=>.call a2 (jI c r.2.2.1 n r.2.2.2 r.1 r.2.1) L3 L4 λr2=>k r r2) Q:=by
 grind [Ok.c,Qz7,Qz8]
theorem Qzi(s:Q2)(n:Int)(v:Bool)(q:List Z0):sD s n v [] q=([],q,s,v):=rfl
theorem UN{s t:Q2}{p:Ends}{k q:Int}{b:ze}{l:List Z0}(h:U3 s (Pw p k q b)=(t,l,0))(v:Bool)(q1 q2:List Z0):sD s p.n v (⟨k,q,b⟩ :: q1) q2=(q1,q2++l,t,v):=by
 show (q1,sE s p.n v q2 2 ⟨k,q,b⟩)=_;unfold sE
 have e:U3 s ⟨2,p.n,Yw,⟨k,q,b⟩⟩=(t,l,0):=h;rw[e];rfl
theorem idle{ρ:Type}{Q:ρ->Prop}{a1 a2:Nat}{L1 L2 L3 L4:List (Nat×Nat)}{c s:Q2}{n:Int}{k:DlR->DlR->TT ρ}(hc:QZ c=true)(hs:QZ s=true)(h:Ok (k ([],[],s,true) ([],[],c,true)) Q) :
  Ok (.call a1 (HC c s n true [] []) L1 L2 λr=>.call a2 (jI c r.2.2.1 n r.2.2.2 r.1 r.2.1) L3 L4 λr2=>k r r2) Q:=
 GQ hc hs (Nat.zero_le _) (Nat.zero_le _) rfl rfl h
theorem RR{p:Ends}(h:N9 p):(aC p≠0->QZ (Yt (CX p) (aC p))=true)/\(aS p≠0->QZ (Yt (Bw p) (aS p))=true):=by
 refine⟨λha=>?_,λha=>?_⟩
 ·have e:=lU h;rw[if_pos ha] at e;grind [R8,CX,Pw,eA]
 ·have e:=lJ h;rw[if_pos ha] at e;grind [R8,Bw,Pw,eB]
theorem qP(s:Q2)(e:Int):((Yt s e).ga==e)=true:=beq_self_eq_true e
theorem Qw5(d:Zq)(hd:Py d):Qy (s4 d) (λr=>r=true):=by
 have h:=Lw d hd
 have hb:=hd.2;unfold s4;refine Qy.fn ?_;unfold g4;refine Ok.c lG λr hr=>?_;subst hr;refine Ok.f rfl (Ok.c (uV d hd) λr hr=>?_);obtain⟨g0,g1⟩:=hr;rw[Z4 (n:=d.fU) (by omega) (by omega),g0,g1]
 have hn:d.fU=(F3 d).n:=rfl;rw[hn];clear hn g0 g1 hb hd;generalize F3 d=p at *
 refine Ok.g (Ok.g (Ok.c (sU (s:=dG p) (o:=(qQ p).fh) h.c h.zs.2.2.2) λrc hrc=>Ok.c (sU (s:=qQ p) (o:=(dG p).fh) h.s h.zc.2.2.2) λrs hrs=>?_));have hrc:rc.1=decide (aC p=0)/\(aC p≠0->rc.2=aC p):=hrc;have hrs:rs.1=decide (aS p=0)/\(aS p≠0->rs.2=aS p):=hrs;refine Ok.c (NX _ (dG p) (qQ p) p.n true [] [] h.c (Nat.zero_le _)) λr hr=>?_;have hr:r=([⟨1,0,eH p⟩],sP p,true):=by
  rw[hr];unfold sE;rw[show U3 (dG p) ⟨(Q6.mk 1 0 zg (Z0.mk 0 0 zg)).fw,p.n,Yw,(Q6.mk 1 0 zg (Z0.mk 0 0 zg)).fO⟩=(sP p,[⟨1,0,eH p⟩],0) from OU h Yw (by decide) _];rfl
 subst hr;refine Ok.tt (GQ h.c1 h.s (Nat.zero_le _) (Nat.zero_le _) (UN (Qqz h) true [] []) (UN (Qqq h) true [] []) (Ok.tt ?_));by_cases ha:aC p≠0
 ·have f:=(RR h).1 ha
  have e5:=lU h;rw[if_pos ha] at e5;refine GQ h.c2 h.s1 (Nat.zero_le _) (Nat.zero_le _) (UN (lH h) true [] []) (UN e5 true [] []) ?_;refine Ok.tt (idle f h.s2 (Ok.tt (idle f h.s2 (Ok.tt (idle f h.s2 (Ok.tt (idle f h.s2 (Ok.tt (idle f h.s2 (Ok.tt (idle f h.s2 (Ok.ff (Ok.f rfl (Ok.t ?_ ?_))))))))))))))
  ·grind
  ·refine Ok.n (R:=λc=>c=true) (Ok.t rfl (Ok.t ?_ (Ok.t rfl (Ok.t rfl (Ok.d rfl))))) λc hc=>Ok.d hc;grind [qP,CX,aC]
 ·have ha:aC p=0:=by simpa using ha
  have e5:=lU h;rw[if_neg (λx=>x ha)] at e5;refine GQ h.c2 h.s1 (Nat.zero_le _) (Nat.zero_le _) (UN (lH h) true [] []) (UN e5 true [] []) (Ok.tt ?_);by_cases hs:aS p≠0
  ·have f:=(RR h).2 hs
   have e6:=lJ h;rw[if_pos hs] at e6;refine GQ (h.c3 ha) h.s2 (Nat.zero_le _) (Nat.zero_le _) (UN e6 true [] []) (Qzi _ _ _ _) ?_;refine Ok.tt (idle (h.c3 ha) f (Ok.tt (idle (h.c3 ha) f (Ok.tt (idle (h.c3 ha) f (Ok.tt (idle (h.c3 ha) f (Ok.tt (idle (h.c3 ha) f (Ok.ff (Ok.f rfl (Ok.f ?_ (Ok.t ?_ ?_)))))))))))))
   ·grind
   ·grind
   ·refine Ok.n (R:=λc=>c=true) (Ok.t rfl (Ok.t ?_ (Ok.t rfl (Ok.d rfl)))) λc hc=>Ok.d hc;grind [qP,Bw,aS]
  ·have hs:aS p=0:=by simpa using hs
   have e6:=lJ h;rw[if_neg (λx=>x hs)] at e6;refine GQ (h.c3 ha) h.s2 (Nat.zero_le _) (Nat.zero_le _) (UN e6 true [] []) (UN (Qq9 h ha) true [] []) ?_;refine Ok.tt (idle (h.c4 ha) (h.s3 hs) (Ok.tt (idle (h.c4 ha) (h.s3 hs) (Ok.tt (idle (h.c4 ha) (h.s3 hs) (Ok.tt (idle (h.c4 ha) (h.s3 hs) (Ok.tt (idle (h.c4 ha) (h.s3 hs) (Ok.ff (Ok.f rfl (Ok.f ?_ (Ok.f ?_ ?_)))))))))))))
   ·grind
   ·grind
   ·exact Ok.n (R:=λc=>c=true) (Ok.t rfl (Ok.d rfl)) λc hc=>Ok.d hc
end Go.Proofs.YtjdieimefebnfaaGreatDoor
namespace Go.Proofs.YtjdieimefebnfaaGreatDoor
open Go Go.EV Go.ChangeShapes
theorem own:ownKnob Tryz.prog.godebug=none:=by kernel_rfl
abbrev Ey:List (String×DataW Unit):=[("unicode/utf8.acceptRanges",Rows.laid_unicode_utf8_acceptRanges),("unicode/utf8.first",Rows.laid_unicode_utf8_first)]
theorem oK(os:Os):(World.laidAll Tryz.prog os Ey).Shaped Tryz.prog:=World.shaped_of_ZipB (by kernel_rfl) (by kernel_rfl)
theorem mI(os:Os)(args:Array Value):laidMetH Tryz.prog Ey ((World.laidAll Tryz.prog os Ey).forCall (λ_ _=>0) ⟨#[],args,[]⟩).memory:=by
 rw[MakeChecks.laidMetH_plain _ _ _ (by kernel_rfl)];exact laidMet_laidAll _ (by kernel_rfl) (by kernel_rfl)
def mT(w:World):Gh:={ loc:=λ_=>none,own:=λ_=>none,Qr:=λB=>match w.heap[B]? with|some (.cells cs _ _)=>cs.size|_=>0 }
theorem Qye{w:World}(_h:laidMetH Tryz.prog Ey w):Ha GG (mT w) w:=λg cells hg=>by
 unfold GG at hg;cases hg
theorem Xk{w w':World}{γ':Gh}(h:Qe (mT w) w γ' w')(may:MemPlace->Prop):w.keptBut w' may:=by
 refine⟨h.os,h.output,λi hi=>?_⟩;have:=(h.free i hi rfl).1;rw[this];cases w.heap[i]? with
 | none=>trivial
 | some x=>
  cases x with
  | cells c t fr=>exact⟨rfl,rfl,rfl,λ_ _=>rfl⟩
  | map es clock=>exact .inr ⟨rfl,rfl⟩
  | _=>rfl
def Ho(W:World)(l:List V)(cs:List Value):Prop:=cs.length=l.length/\∀(i:Nat) (c:V) (v:Value),l[i]?=some c->cs[i]?=some v->K5 (mT W).Qr W c v
theorem Ho.one{W:World}{c:V}{v:Value}(h:K5 (mT W).Qr W c v):Ho W [c] [v]:=⟨rfl,λi c' v' hc hv=>by
 cases i with
 | zero=>simp at hc hv;subst hc;subst hv;exact h
 | succ i=>simp at hc⟩
theorem Ho.append{W:World}{l m:List V}{cs ds:List Value}(h:Ho W l cs)(k:Ho W m ds):Ho W (l++m) (cs++ds):=
  ⟨by simp[h.1,k.1],λi c v hc hv=>by
    by_cases hi:i < l.length
    · rw[wo hi] at hc
      rw[wo (by rw[h.1];exact hi)] at hv;exact h.2 i c v hc hv
    · rw[ww (by omega)] at hc
      rw[ww (by rw[h.1];omega),h.1] at hv;exact k.2 _ c v hc hv⟩
def Rd(t:TypeId){α:Type}(c:α->List V)(I:α->Prop):Prop:=
 ∀(H:Type) (enc:TypeId×Value->H) (W:World) (N4:Nat) (cs:List Value) (x:DataW H×List MemPlace),DataW.trod enc Tryz.prog W 0 (λ_=>true) true N4 t cs=some x->∃a:α,I a/\Ho W (c a) cs
theorem Nb{t:TypeId}{k:IntKind}(ht:Tryz.prog.underlying t=some (.int k)):Rd t (λn:Int=>[.int k n]) (λn=>(Lit.int k n).wf=true):=λH enc W N4 cs x h=>by
 obtain⟨n,rfl,_,hw⟩:=DataW.trod_int ht h;exact⟨n,hw,.one (.int k n)⟩
theorem fld{H:Type}{enc:TypeId×Value->H}{W:World}{n:Nat}{fs:Array Field}{cs:List Value}{xs:List (DataW H×List MemPlace)}{t o z:Nat}{α:Type}{c:α->List V}{I:α->Prop}
  (hel:∀(i:Nat) (f:Field),fs[i]?=some f->DataW.trod enc Tryz.prog W 0 (λ_=>true) true n f.type ((cs.drop f.offset).take (Tryz.prog.cellsOf f.type))=xs[i]?) (hn:xs.length=fs.size) (i:Nat)
  (hf:(fs[i]?).map (λf=>(f.type,f.offset))=some (t,o)) (hz:Tryz.prog.cellsOf t=z) (r:Rd t c I):∃a:α,I a/\Ho W (c a) ((cs.drop o).take z):=by
 obtain⟨f,h1,h2⟩:=zF.1 hf;simp only[zP] at h2;obtain⟨rfl,rfl⟩:=h2;have hi:i < xs.length:=by rw[hn];exact(wE.1 h1).1
 have:=hel i f h1;rw[wl hi,hz] at this;exact r H enc W n _ _ this
theorem rM{H:Type}{enc:TypeId×Value->H}{W:World}{n m:Nat}{cs:List Value}{xs:List (DataW H×List MemPlace)}{t z:Nat}{α:Type}{c:α->List V}{I:α->Prop}
  (hel:∀(i:Nat),i < m->DataW.trod enc Tryz.prog W 0 (λ_=>true) true n t ((cs.drop (i * Tryz.prog.cellsOf t)).take (Tryz.prog.cellsOf t))=xs[i]?) (hn:xs.length=m) (i:Nat) (hi:i < m)
  (hz:Tryz.prog.cellsOf t=z) (r:Rd t c I):∃a:α,I a/\Ho W (c a) ((cs.drop (i * z)).take z):=by
 have:=hel i hi;rw[wl (by omega),hz] at this;exact r H enc W n _ _ this
noncomputable def Qip(t:TypeId):Array Field:=match Tryz.prog.underlying t with|some (.struct f)=>f|_=>#[]
theorem uS{H:Type}{enc:TypeId×Value->H}{W:World}{t:TypeId}{α:Type}{c:α->List V}{I:α->Prop}(r:Rd t c I){v:Value}{d:DataW H}{p:List MemPlace}(hv:∃cs,v=.agg cs)
  (h:DataW.Trod enc Tryz.prog W 0 (λ_=>true) true t v d p):∃a:α,I a/\Qz (mT W) W (Qm []) Qw (.agg (c a)) v:=by
 obtain⟨cs,rfl⟩:=hv;obtain⟨N4,hf⟩:=h;obtain⟨a,hi,hc⟩:=r H enc W N4 _ _ hf;refine⟨a,hi,?_⟩;have:=Qz.agg (γ:=mT W) (w:=W) (bs:=Qm []) (u:=Qw) (c a) cs.toList hc.1 (λi x y hx hy=>.data (hc.2 i x y hx hy));simpa using this
theorem BZ{W:World}{base:Nat}{t:TypeId}{v:Value}{fs:Array Field}(ht:Tryz.prog.underlying t=some (.struct fs))(h:Value.okWide Tryz.prog W .any base t v):∃cs,v=.agg cs:=by
 simp only[Value.okWide,ht] at h;obtain⟨cs,h1,_⟩:=h;exact⟨cs,h1⟩
theorem laidOut:laidOutB Tryz.prog=true:=by kernel_rfl
theorem Ol{w w':World}{γ':Gh}(h:Qe (mT w) w γ' w'):RowKit.Below w.heap.size w w':=
 ⟨h.os,h.tape,h.output,h.size,λk hk=>(h.free k hk rfl).1⟩
section
variable {H:Type} {enc:TypeId×Value->H} {P:Program} {w:World} {base:Nat} {spare:zl} {held:Bool}
end
theorem qC{n:Int}(h:(Lit.int .u8 n).wf=true):0<=n/\n<=255:=by
 simp[Lit.wf,IntKind.min,IntKind.max,IntKind.signed,IntKind.bits] at h;omega
theorem LK{n:Int}(h:(Lit.int .u16 n).wf=true):0<=n/\n<=65535:=by
 simp[Lit.wf,IntKind.min,IntKind.max,IntKind.signed,IntKind.bits] at h;omega
end Go.Proofs.YtjdieimefebnfaaGreatDoor
namespace Go.Proofs.YtjdieimefebnfaaGreatDoor
open Go Go.EV
theorem u26:Tryz.prog.underlying 26=some (.struct (Qip 26)):=by kernel_rfl
theorem Qdu:Tryz.prog.cellsOf 26=7:=by kernel_rfl
theorem u22:Tryz.prog.underlying 22=some (.array 2 5):=by kernel_rfl
theorem bL:Tryz.prog.cellsOf 22=2:=by kernel_rfl
theorem u5:Tryz.prog.underlying 5=some (.int .u8):=by kernel_rfl
theorem zc5:Tryz.prog.cellsOf 5=1:=by kernel_rfl
theorem ln2{α:Type}{l:List α}(h:l.length=2):∃v0 v1,l=[v0,v1]:=by match l,h with|[v0,v1],_=>exact⟨v0,v1,rfl⟩
def c22(x:XM):List V:=[.int .u8 x.a0,.int .u8 x.a1]
def Quy(x:XM):Prop:=(Lit.int .u8 x.a0).wf=true/\(Lit.int .u8 x.a1).wf=true
theorem Qhn:Rd 22 c22 Quy:=λH enc W N4 cs x h=>by
 obtain⟨xs,m,rfl,-,hl,hn,hel⟩:=DataW.trod_array u22 h;rw[bL] at hl;obtain⟨v0,v1,rfl⟩:=ln2 hl;obtain⟨a0,i0,k0⟩:=rM hel hn 0 (by omega) zc5 (Nb u5);obtain⟨a1,i1,k1⟩:=rM hel hn 1 (by omega) zc5 (Nb u5);exact⟨⟨a0,a1⟩,⟨i0,i1⟩,k0.append k1⟩
theorem u24:Tryz.prog.underlying 24=some (.array 2 23):=by kernel_rfl
theorem Quw:Tryz.prog.cellsOf 24=2:=by kernel_rfl
theorem u23:Tryz.prog.underlying 23=some (.int .u16):=by kernel_rfl
theorem bO:Tryz.prog.cellsOf 23=1:=by kernel_rfl
def Xi(x:IE):List V:=[.int .u16 x.a0,.int .u16 x.a1]
def Qd8(x:IE):Prop:=(Lit.int .u16 x.a0).wf=true/\(Lit.int .u16 x.a1).wf=true
theorem Qxx:Rd 24 Xi Qd8:=λH enc W N4 cs x h=>by
 obtain⟨xs,m,rfl,-,hl,hn,hel⟩:=DataW.trod_array u24 h;rw[Quw] at hl;obtain⟨v0,v1,rfl⟩:=ln2 hl;obtain⟨a0,i0,k0⟩:=rM hel hn 0 (by omega) bO (Nb u23);obtain⟨a1,i1,k1⟩:=rM hel hn 1 (by omega) bO (Nb u23);exact⟨⟨a0,a1⟩,⟨i0,i1⟩,k0.append k1⟩
theorem ln7{α:Type}{l:List α}(h:l.length=7):∃v0 v1 v2 v3 v4 v5 v6,l=[v0,v1,v2,v3,v4,v5,v6]:=by match l,h with|[v0,v1,v2,v3,v4,v5,v6],_=>exact⟨v0,v1,v2,v3,v4,v5,v6,rfl⟩
def c26(x:Zq):List V:=[.int .u8 x.fG.a0,.int .u8 x.fG.a1,.int .u16 x.fB.a0,.int .u16 x.fB.a1,.int .u16 x.fU,.int .u8 x.gg.a0,.int .u8 x.gg.a1]
def Quz(x:Zq):Prop:=Quy x.fG/\Qd8 x.fB/\(Lit.int .u16 x.fU).wf=true/\Quy x.gg
theorem Qxd:Rd 26 c26 Quz:=λH enc W N4 cs x h=>by
 obtain⟨xs,m,rfl,-,hl,hn,hel⟩:=DataW.trod_struct u26 h;rw[Qdu] at hl;obtain⟨v0,v1,v2,v3,v4,v5,v6,rfl⟩:=ln7 hl;obtain⟨a0,i0,k0⟩:=fld hel hn 0 (t:=22) (o:=0) (by kernel_rfl) bL Qhn;obtain⟨a1,i1,k1⟩:=fld hel hn 1 (t:=24) (o:=2) (by kernel_rfl) Quw Qxx;obtain⟨a2,i2,k2⟩:=fld hel hn 2 (t:=23) (o:=4) (by kernel_rfl) bO (Nb u23);obtain⟨a3,i3,k3⟩:=fld hel hn 3 (t:=22) (o:=5) (by kernel_rfl) bL Qhn;exact⟨⟨a0,a1,a2,a3⟩,⟨i0,i1,i2,i3⟩,k0.append (k1.append (k2.append k3))⟩
theorem u4:Tryz.prog.underlying 4=some .bool:=by kernel_rfl
theorem yU{d:Zq}(h:Quz d):Gr d:=have a:=LK h.2.1.1;have b:=LK h.2.1.2;⟨⟨a.1,by omega⟩,⟨b.1,by omega⟩,(qC h.2.2.2.1).1,(qC h.q).1⟩
theorem Qjf{d:Zq}(h:Quz d):Py d:=have k:=LK h.2.2.1;⟨yU h,k.1,by omega⟩
end Go.Proofs.YtjdieimefebnfaaGreatDoor
