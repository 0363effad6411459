/- Part Y22. -/
import Derived.Test.YtjdieimefebnfaaGreatDoorY21
import Derived.Test.YtjdieimefebnfaaGreatDoorRows
import Derived.ChangeSame
import Derived.ChangeVars
import Derived.JoinedOf
import Derived.RowKit
import Derived.ProofKit
import Derived.LaidMore
import Derived.Lay
import Derived.OpenShut
import Derived.Carry
import Derived.Stop.Joined
import Derived.Lib.LaidU8
import Derived.ChangeArms
import Derived.DataReads
import Derived.SevenTiedAt
set_option linter.unusedVariables false
set_option linter.unusedSimpArgs false
set_option maxRecDepth 100000
namespace Go.Proofs.YtjdieimefebnfaaGreatDoor
open Go Go.EV
theorem stepOf(s:Q2)(v:Q6)(h1:QY s=true)(h2:Bp s v=true):J1 s v=Dl { s with fk:=v.fk } (HY { s with fk:=v.fk } v):=by unfold J1;rw[h1,h2];rfl
theorem Qxw:RK (UM++Ka |> λ_=>cM++cK) (UM++Ka) nL=JT:=by
 unfold RK;rw[J2 wf5,J2 wf6]
theorem Qh7:FC cM cK UM Ka=JT:=Qxw
theorem sQ:L0 JT Kp (DD++K8)=ZJ wK2 wH1:=by
 unfold L0 RK;rw[J2 wf7,J2 wf8,J2 Qxu]
theorem pV:L0 JT Xe Aq=JC:=by
 unfold L0 RK;rw[J2 wf7,J2 wf9,J2 Qxy,J2 Qxz]
theorem wNz:¬(cM=MQ\/cK=MQ):=of_decide_eq_false Qx7
theorem Qut:(Zj K8).fI=K8.extract 23 55:=J2 (by kernel_rfl)
theorem Quc:(Zj I7).fI=I7.extract 23 55:=J2 (by kernel_rfl)
theorem Qxm:X7 iN YO=.inl (iG,[⟨4,2,V0⟩]):=by
 have eM:DW iN YO=JT:=by
  unfold DW;rw[J2 Qh4,J2 Qh3,J2 Qh2,Quc];show FC (xS MU _) (xS YF _) UM Ka=_;rw[J2 wf1,J2 wf2];exact Qh7
 have eT:WH iN YO=DD:=J2 Qxq
 have eB:Hd iN YO=V0:=by
  unfold Hd;rw[eM,eT];show L0 JT Kp (DD++K8)++K8=_;rw[sQ];exact J2 Qxj
 unfold X7;rw[eM,eT,eB,J2 Qh4,J2 Qh3,J2 Qh2,Qx3,Quc,J2 Qh6];show (if ¬64 < YO.size then _ else if true=false then _ else if T9 (Zj I7) [EW] 1000≠0 then _ else if xS MU (I7.extract 23 55)=MQ\/xS YF Nh=MQ then _ else _)=_;rw[Qx9,J2 wf1,J2 wf2,if_neg (by decide),if_neg (by decide),if_neg (by decide),if_neg wNz];rfl
theorem Qxh:G3 iF V0=.inl (wS3,[⟨5,2,JC⟩]):=by
 have eM:Kg iF V0=JT:=by
  unfold Kg;rw[J2 Qh1,Qut];show FC (xS HD Nj) (xS Oz _) UM Ka=_;rw[J2 wf3,J2 wf4];exact Qh7
 have eT:Mk iF V0=Aq:=J2 Qh6
 have eC:Hb iF V0=JC:=by
  unfold Hb;rw[eM,eT];exact pV
 unfold G3;rw[eM,eT,eC,J2 Qh1,Qx2,Qut,J2 Qh5];show (if ¬32 < V0.size then _ else if true=false then _ else if T9 (Zj K8) [Xm] 1000≠0 then _ else if xS HD Nj=MQ\/xS Oz (K8.extract 23 55)=MQ then _ else if V0.extract 0 32≠L0 JT Kp (DD++K8) then _ else _)=_;rw[Qx8,J2 wf3,J2 wf4,if_neg (by decide),if_neg (by decide),if_neg (by decide),if_neg wNz,if_neg (by rw[sQ];exact λh=>h (J2 Qx1).symm)];rfl
theorem Qxk:JQ iG JC=.inl (wC4,[]):=by
 unfold JQ;rw[if_neg (by decide),if_neg (λh=>h pV.symm)];show Sum.inl (({ iG with fB:=Aq++Jk 5 JC,fo:=6,fM:=[],fq:=iS }:Q2),([]:List Qq))=_;rw[J2 Qh5];rfl
theorem wk6:J1 iN ⟨2,1000,bs [120],⟨3,1,YO⟩⟩=(iG,[⟨4,2,V0⟩],0):=by
 rw[stepOf _ _ Qx6 (by kernel_rfl)];have e:HY { iN with fk:=1000 } ⟨2,1000,bs [120],⟨3,1,YO⟩⟩=X7 iN YO:=by
  unfold HY;rw[if_neg (by decide),if_pos (by decide)];unfold U6;rw[if_neg (by decide),if_pos (by decide)];rfl
 show Dl _ (HY { iN with fk:=1000 } _)=_;rw[e,Qxm];rfl
theorem wk7:J1 iF ⟨2,1000,bs [102,97,114],⟨4,2,V0⟩⟩=(wS3,[⟨5,2,JC⟩],0):=by
 rw[stepOf _ _ Qx5 (by kernel_rfl)];have e:HY { iF with fk:=1000 } ⟨2,1000,bs [102,97,114],⟨4,2,V0⟩⟩=G3 iF V0:=by
  unfold HY;rw[if_neg (by decide),if_pos (by decide)];unfold U6;rw[if_neg (by decide),if_neg (by decide),if_neg (by decide),if_neg (by decide),if_pos (by decide)];rfl
 show Dl _ (HY { iF with fk:=1000 } _)=_;rw[e,Qxh];rfl
theorem wk8:J1 iG ⟨2,1000,zg,⟨5,2,JC⟩⟩=(wC4,[],0):=by
 rw[stepOf _ _ Qx4 (by kernel_rfl)];have e:HY { iG with fk:=1000 } ⟨2,1000,zg,⟨5,2,JC⟩⟩=JQ iG JC:=by
  unfold HY;rw[if_neg (by decide),if_pos (by decide)];unfold U6;rw[if_neg (by decide),if_neg (by decide),if_pos (by decide)];rfl
 show Dl _ (HY { iG with fk:=1000 } _)=_;rw[e,Qxk];rfl
theorem PT{α:Type}{s:EV.Spec Tryz.prog GG α}{g:TT α}{Q:α->Prop}(h:s.o=g.run)(k:Ok g Q):Qj s Q:=let ⟨r,h1,h2⟩:=k;⟨r,h.trans h1,h2⟩
theorem kW(a:Int)(b c d:ze)(e:List ze):(NY a b c d e).o=(Tu a b c d e).run:=rfl
theorem SB(b:Z5)(hv:G5 b=true):Qj (s47 b) (λr=>r=(M8 (UD (K5 b)),0)):=by
 grind [oF,Qj.fn,Ok.c,MV,Ok.f,Ru,Ok.d,s47,g47]
theorem newEq{side now:Int}{sec bdg fr rn ck k:ze}{ps:List ze}(h:QY (Jm side sec bdg fr rn ck ps now)=true)(h1:(Zj bdg).fI=k)(h2:xS sec V2=k):FP side sec bdg fr rn ck ps now=(Jm side sec bdg fr rn ck ps now,0):=by
 unfold FP;rw[h,h1,h2,we rfl];rfl
def Qwj(s:Q2)(p:ze):Bool×ze×Int×Int×Int×ze×ze×ze×ze×ze×(List ze)×Int×ze×ze×ze×ze×ze×(List Qq)×Int×Int×Int×Int:=
 (true,p,s.fp,s.fo,s.fk,s.fY,s.fh,s.fW,s.fA,s.fX,s.fJ,s.fm,s.fB,s.fj.fA,s.fj.fO,s.fj.fh,s.fH,s.fM,s.fq.fE,s.fq.fV,s.fq.fL,s.fZ)
theorem vCb:G5 ⟨bs [99],K8.extract 23 55,0,100000,7⟩=true:=wv8
theorem vSb:G5 ⟨bs [115],I7.extract 23 55,0,100000,7⟩=true:=wv9
theorem eCb:K5 ⟨bs [99],K8.extract 23 55,0,100000,7⟩=K8:=J2 wv6
theorem eSb:K5 ⟨bs [115],I7.extract 23 55,0,100000,7⟩=I7:=J2 wv7
theorem Qzh:Qj (s80 1 (bs [99]) (bs [7]) zg []) (λr=>r=(wA,Xm,true)):=by
 unfold s80;refine Qj.fn ?_;unfold g80;refine Ok.c (Qj.o wu1) λr hr=>Ok.c (Uo r) λr2 hr2=>?_;subst hr;rw[if_pos (by decide),J2 wv4] at hr2;subst hr2;refine Ok.c (FL ⟨bs [99],K8.extract 23 55,0,100000,7⟩) λr hr=>Ok.c (SB ⟨bs [99],K8.extract 23 55,0,100000,7⟩ vCb) λr2 hr2=>?_;rw[if_pos vCb,eCb] at hr;rw[eCb,J2 Qh0] at hr2;subst hr hr2;refine Ok.k (by decide) (Ok.c (Qj.o wu4) λr hr=>Ok.k (by decide) (Ok.c (Qj.o wu5) λr2 hr2=>?_));subst hr hr2;refine Ok.c (SS 1 YF K8 MU UM zg [] 1000 (L7 (s:=wA) wv1).sm) λr hr=>?_;rw[newEq (k:=K8.extract 23 55) wv1 (J2 Quv) (J2 wv4)] at hr;subst hr;exact Ok.t rfl (Ok.t rfl (Ok.t rfl (Ok.d rfl)))
theorem Qzj:Qj (NY 2 (bs [115]) (bs [5]) Ny [Xm]) (λr=>r=Qwj wS EW):=by
 refine PT (kW _ _ _ _ _) ?_;unfold Tu;refine Ok.c (Qj.o wu2) λr hr=>Ok.c (Uo r) λr2 hr2=>?_;subst hr;rw[if_pos (by decide),J2 wv5] at hr2;subst hr2;refine Ok.c (FL ⟨bs [115],I7.extract 23 55,0,100000,7⟩) λr hr=>Ok.c (SB ⟨bs [115],I7.extract 23 55,0,100000,7⟩ vSb) λr2 hr2=>?_;rw[if_pos vSb,eSb] at hr;rw[eSb,J2 Qds] at hr2;subst hr hr2;refine Ok.g (Ok.k (by decide) (Ok.c (Qj.o wu6) λr hr=>Ok.k (by decide) (Ok.c (Qj.o wu7) λr2 hr2=>?_)));subst hr hr2;refine Ok.c (SS 2 HD I7 Oz Ka Ny [Xm] 1000 (L7 (s:=wS) wv2).sm) λr hr=>?_;rw[newEq (k:=I7.extract 23 55) wv2 (J2 Qdp) (J2 wv5)] at hr;subst hr;exact Ok.t rfl (Ok.t rfl (Ok.t rfl (Ok.d rfl)))
theorem Qzu:Qj (NY 1 (bs [99]) (bs [7]) zg [EW]) (λr=>r=Qwj wC Xm):=by
 refine PT (kW _ _ _ _ _) ?_;unfold Tu;refine Ok.c (Qj.o wu1) λr hr=>Ok.c (Uo r) λr2 hr2=>?_;subst hr;rw[if_pos (by decide),J2 wv4] at hr2;subst hr2;refine Ok.c (FL ⟨bs [99],K8.extract 23 55,0,100000,7⟩) λr hr=>Ok.c (SB ⟨bs [99],K8.extract 23 55,0,100000,7⟩ vCb) λr2 hr2=>?_;rw[if_pos vCb,eCb] at hr;rw[eCb,J2 Qh0] at hr2;subst hr hr2;refine Ok.g (Ok.k (by decide) (Ok.c (Qj.o wu4) λr hr=>Ok.k (by decide) (Ok.c (Qj.o wu5) λr2 hr2=>?_)));subst hr hr2;refine Ok.c (SS 1 YF K8 MU UM zg [EW] 1000 (L7 (s:=wC) wv3).sm) λr hr=>?_;rw[newEq (k:=K8.extract 23 55) wv3 (J2 Quv) (J2 wv4)] at hr;subst hr;exact Ok.t rfl (Ok.t rfl (Ok.t rfl (Ok.d rfl)))
theorem Qzf:Qj s39 (λr=>r=(wC,wS,true)):=by
 have key:Ok g39 (λr=>r=(wC,wS,true)):=by
  unfold g39;refine Ok.c (Qj.o wu3) λr hr=>Ok.c Qzh λr2 hr2=>?_;subst hr hr2;refine Ok.c Qzj λr hr=>?_;subst hr;refine Ok.c Qzu λr hr=>?_;subst hr;exact Ok.t rfl (Ok.t rfl (Ok.d rfl))
 grind [oF,Qj.fn,k39,s39]
theorem ET{s s2:Q2}{f:ze}{n m:Qq}(hs:Sm s)(h:J1 s ⟨2,s.fk,f,n⟩=(s2,[m],0)):Qj (sX s f n) (λr=>r=(s2,m,true)):=by
 unfold sX;refine Qj.fn ?_;unfold g40;refine Ok.c (E9 s _ hs) λr hr=>?_;rw[h] at hr;subst hr;exact Ok.n (R:=λc=>c=false) (Ok.f rfl (Ok.d rfl)) λc hc=>Ok.f hc (Ok.r rfl rfl (Ok.d rfl))
theorem jN{s s2:Q2}{v:Q6}{l:List Qq}{e:Int}(h:J1 s v=(s2,l,e)):Sm s2:=by
 have z:=(oS s v).1;rw[h] at z;exact z.sm (by decide)
theorem gY:Qj s14 (λr=>r=true):=by
 have q1:J1 wC ⟨1,1000,zg,⟨0,0,zg⟩⟩=_:=JI wk1
 have q2:=JI wk2
 have q3:=JI wk3
 have q4:=JI wk4
 have q5:=JI wk5
 have q9:J1 iR ⟨3,1399,zg,⟨0,0,zg⟩⟩=_:=JI wk9
 have q10:J1 iR ⟨3,1400,zg,⟨0,0,zg⟩⟩=_:=JI Qx0
 have q11:J1 wS ⟨1,1000,zg,⟨0,0,zg⟩⟩=_:=JI Qdv
 have q12:=JI Qdt
 have q13:=JI Qdc
 have mC:=(L7 wv3).sm
 have mS:=(L7 wv2).sm
 have mC1:=jN q1
 have mS1:=jN q2
 have mC2:=jN q3
 have mS2:=jN q4
 have mC3:=jN wk6
 have key:Ok g14 (λr=>r=true):=by
  unfold g14;refine Ok.c Qzf λr hr=>?_;subst hr;refine Ok.f rfl (Ok.c (E9 wC _ mC) λr hr=>?_);rw[q1] at hr;subst hr;refine Ok.n (R:=λc=>c=false) (Ok.f rfl (Ok.f rfl (Ok.f rfl (Ok.r rfl rfl (Ok.f rfl (Ok.r rfl rfl (Ok.f rfl (Ok.r rfl rfl (Ok.d rfl))))))))) λc hc=>Ok.f hc (Ok.r rfl rfl ?_);refine Ok.c (ET mS q2) λr hr=>?_;subst hr;refine Ok.c (ET mC1 q3) λr hr=>?_;subst hr;refine Ok.c (ET mS1 q4) λr hr=>?_;subst hr;refine Ok.c (ET mS1 q5) λr hr=>?_;subst hr;refine Ok.c (ET mC2 wk6) λr hr=>?_;subst hr;refine Ok.c (ET mS2 wk7) λr hr=>?_;subst hr;refine Ok.n (R:=λc=>c=false) (Ok.f rfl (Ok.f rfl (Ok.f rfl (Ok.f rfl (Ok.f rfl (Ok.d rfl)))))) λc hc=>Ok.f hc ?_;refine Ok.c (E9 iG _ mC3) λr hr=>?_;rw[wk8] at hr;subst hr;refine Ok.n (R:=λc=>c=true) ?_ λc1 h1=>Ok.n (R:=λc=>c=true) ?_ λc2 h2=>?_
  ·iterate 18 refine Ok.t rfl ?_
   exact Ok.d rfl
  ·exact Ok.t rfl (Ok.t rfl (Ok.t rfl (Ok.t (by decide) (Ok.t (by decide) (Ok.t (by decide) (Ok.t (by decide) (Ok.d (by decide))))))))
  refine Ok.c (E9 iR _ mC1) λr hr=>?_;rw[q9] at hr;subst hr;refine Ok.c (E9 iR _ mC1) λr hr=>?_;rw[q10] at hr;subst hr;refine Ok.n (R:=λc=>c=true) ?_ λc3 h3=>?_
  ·exact Ok.t rfl (Ok.t rfl (Ok.t rfl (Ok.t rfl (Ok.t rfl (Ok.r rfl rfl (Ok.r rfl rfl (Ok.t (by decide) (Ok.d rfl))))))))
  refine Ok.c (E9 wS _ mS) λr hr=>?_;rw[q11] at hr;subst hr;refine Ok.c (E9 wS _ mS) λr hr=>?_;rw[q12] at hr;subst hr;refine Ok.k (by decide) (Ok.c (E9 iR _ mC1) λr hr=>?_);rw[q13] at hr;subst hr;exact Ok.n (R:=λc=>c=true) (Ok.t h1 (Ok.t h2 (Ok.t h3 (Ok.t rfl (Ok.t rfl (Ok.d rfl)))))) λc hc=>Ok.d hc
 grind [oF,Qj.fn,k14,s14]
abbrev DlR:=List Qq×List Qq×Q2×Bool
theorem Pv{ρ:Type}{Q:ρ->Prop}{a1 a2:Nat}{L1 L2 L3 L4:List (Nat×Nat)}{c s s' c':Q2}{n:Int}{q0 q1 q0' q1' q2 q3:List Qq}{k:DlR->DlR->TT ρ}(hc:QY c=true)(hs:QY s=true)(l0:q0.length<=100000)(l1:q1'.length<=100000)
  (e1:mtD s n true q1 q0=(q1',q0',s',true)) (e2:mtD c n true q0' q1'=(q2,q3,c',true)) (h:Ok (k (q0',q1',s',true) (q2,q3,c',true)) Q) :
  Ok (.call a1 (Ca c s n true q0 q1) L1 L2 λr=>.call a2 (s18 c r.2.2.1 n r.2.2.2 r.1 r.2.1) L3 L4 λr2=>k r r2) Q:=by
 grind [Ok.c,Qzd,Qzx]
theorem Dj{s t:Q2}{p:Ends}{k q:Int}{b:ze}{l:List Qq}(h:J1 s (Th p k q b)=(t,l,0))(v:Bool)(q1 q2:List Qq):mtD s p.n v (⟨k,q,b⟩ :: q1) q2=(q1,q2++l,t,v):=by
 show (q1,sC s p.n v q2 2 ⟨k,q,b⟩)=_;unfold sC
 have e:J1 s ⟨2,p.n,Yw,⟨k,q,b⟩⟩=(t,l,0):=h;rw[e];rfl
theorem idle{ρ:Type}{Q:ρ->Prop}{a1 a2:Nat}{L1 L2 L3 L4:List (Nat×Nat)}{c s:Q2}{n:Int}{k:DlR->DlR->TT ρ}(hc:QY c=true)(hs:QY s=true)(h:Ok (k ([],[],s,true) ([],[],c,true)) Q) :
  Ok (.call a1 (Ca c s n true [] []) L1 L2 λr=>.call a2 (s18 c r.2.2.1 n r.2.2.2 r.1 r.2.1) L3 L4 λr2=>k r r2) Q:=
 Pv hc hs (Nat.zero_le _) (Nat.zero_le _) rfl rfl h
def DJ(d:QE):QE:=⟨d.fD,⟨65535,65535⟩,Int.tmod d.gc 30000,⟨Int.tmod d.gd.a0 2,Int.tmod d.gd.a1 2⟩⟩
theorem Pd{b:Z5}{l:List ze}{n:Int}(hv:G5 b=true)(hp:Kl { Pb with fJ:=l }=true)(hm:Oh b∈l)(hn:0<=n/\n<=1099511627776)(h1:b.fF<=n)(h2:n<=b.fC):T9 b l n=0:=by
 unfold Kl at hp;simp only[zF,zI] at hp;have g1:(l.any λx=>!YX x)=false:=by
  rw[List.any_eq_false];intro x hx;have:=zJ.1 hp.2 x hx;simp[this]
 have g2:decide (8 < l.length)=false:=by simp;omega
 have g3:(l.any λx=>decide (M8 (UD (K5 b))=x))=true:=List.any_eq_true.2 ⟨_,hm,by rw[zI];rfl⟩
 have g4:(decide (n < 0) || decide (1099511627776 < n))=false:=by simp;omega
 have g5:(decide (n < b.fF) || decide (b.fC < n))=false:=by simp;omega
 have gm:By b l=0:=by unfold By;rw[hv,g1,g2,g3];rfl
 unfold T9;rw[gm,g4,g5];rfl
theorem Cg{a:Int}(h:0<=a)(o q:ze):q∈Of (Int.tmod (Int.tmod a 2) 4) o q:=by
 have:Int.tmod (Int.tmod a 2) 4=0\/Int.tmod (Int.tmod a 2) 4=1:=by
  rw[Int.tmod_eq_emod_of_nonneg h,Int.tmod_eq_emod_of_nonneg (by omega)];omega
 rcases this with e|e<;>rw[e]<;>simp[Of]
theorem aH{d:QE}(hd:Xh d):Xh (DJ d)/\aC (D0 (DJ d))=0/\aS (D0 (DJ d))=0:=by
 obtain⟨⟨u1,u2,u3,u4⟩,hb⟩:=hd;have hn:0<=Int.tmod d.gc 30000/\Int.tmod d.gc 30000 < 30000:=by rw[Int.tmod_eq_emod_of_nonneg hb.1];omega
 have k3:0<=Int.tmod d.gd.a0 2:=by rw[Int.tmod_eq_emod_of_nonneg u3];omega
 have k4:0<=Int.tmod d.gd.a1 2:=by rw[Int.tmod_eq_emod_of_nonneg u4];omega
 have v0:=Km (side:=0) (k:=d.fD.a0) (u:=65535) (.inl rfl) (by decide)
 have v1:=Km (side:=1) (k:=d.fD.a1) (u:=65535) (.inr rfl) (by decide)
 have po:YX (FY d.fD.a0)=true:=ER (F2 _ _);refine⟨⟨⟨(show (0:Int)<=65535/\(65535:Int)<=65535 by decide),(show (0:Int)<=65535/\(65535:Int)<=65535 by decide),k3,k4⟩,hn.1,by show Int.tmod d.gc 30000<=65535;omega⟩,?_,?_⟩
 ·show T9 (Zj (K5 (Yx 1 d.fD.a1 65535))) (Of (Int.tmod (Int.tmod d.gd.a0 2) 4) (FY d.fD.a0) (Oh (Yx 1 d.fD.a1 65535))) (Int.tmod d.gc 30000)=0;rw[(Mx v1).2];exact Pd v1 (FZ po (XU _)) (Cg u3 _ _) (by omega) hn.1 (show Int.tmod d.gc 30000<=65535 by omega)
 ·show T9 (Zj (K5 (Yx 0 d.fD.a0 65535))) (Of (Int.tmod (Int.tmod d.gd.a1 2) 4) (FY d.fD.a0) (Oh (Yx 0 d.fD.a0 65535))) (Int.tmod d.gc 30000)=0;rw[(Mx v0).2];exact Pd v0 (FZ po (XU _)) (Cg u4 _ _) (by omega) hn.1 (show Int.tmod d.gc 30000<=65535 by omega)
abbrev flT(q:List Qq)(c s:Q2)(n:Int)(v:Bool):=(q,c.fp,c.fo,c.fk,c.fY,c.fh,c.fW,c.fA,c.fX,c.fJ,c.fm,c.fB,c.fj.fA,c.fj.fO,c.fj.fh,c.fH,c.fM,c.fq.fE,c.fq.fV,c.fq.fL,c.fZ,s.fp,s.fo,s.fk,s.fY,s.fh,s.fW,s.fA,s.fX,s.fJ,s.fm,s.fB,s.fj.fA,s.fj.fO,s.fj.fh,s.fH,s.fM,s.fq.fE,s.fq.fV,s.fq.fL,s.fZ,n,v)
theorem Quy(d:QE):(uY d).o=(dJ d).run:=by kernel_rfl
theorem mE(d:QE)(hd:Xh d):Qj (uY d) (λr=>r=flT [⟨1,0,eH (D0 (DJ d))⟩] (oY (D0 (DJ d))) (qP (D0 (DJ d))) (D0 (DJ d)).n true):=by
 have hb:=(aH hd).1
 have h:=Di _ hb
 have hn:0<=Int.tmod d.gc 30000/\Int.tmod d.gc 30000<=65535:=hb.2;refine PT (Quy d) ?_;unfold dJ;rw[Z2 (n:=Int.tmod d.gc 30000) (by omega) (by omega)];refine Ok.g (Ok.g (Ok.c (kA (DJ d) hb) λr hr=>Ok.g (Ok.g ?_)));obtain⟨g0,g1⟩:=hr;rw[g0,g1]
 have e:Int.tmod d.gc 30000=(D0 (DJ d)).n:=rfl;rw[e];generalize D0 (DJ d)=p at *
 refine Ok.c (Rz _ (pZ p) (qP p) p.n true [] [] h.c (Nat.zero_le _)) λr hr=>?_;have hr:r=([⟨1,0,eH p⟩],oY p,true):=by
  rw[hr];unfold sC;rw[show J1 (pZ p) ⟨(Q6.mk 1 0 zg (Qq.mk 0 0 zg)).fw,p.n,Yw,(Q6.mk 1 0 zg (Qq.mk 0 0 zg)).fP⟩=(oY p,[⟨1,0,eH p⟩],0) from ON h Yw (by decide) _];rfl
 subst hr;exact Ok.d rfl
def stS(p:Ends):Nat->Q2×Q2×Bool×List Qq×List Qq×Int
 | 0=>(oY p,qP p,true,[],[⟨1,0,eH p⟩],0)
 | 1=>(qS p,qR p,true,[],[⟨1,1,eH p++eK p⟩],1)
 | 2=>(bM p,VV p,true,[],[⟨4,2,eB p⟩],2)
 | k+3=>(eC4 p,eS3 p,true,[],[],((k+3:Nat):Int))
theorem MW{s:Q2}(h:QY s=true)(hs:s.fo=6)(now:Int)(f:ze)(n:Qq):(J1 s ⟨2,now,f,n⟩).2.2=8\/(J1 s ⟨2,now,f,n⟩).2.2=2:=by
 unfold J1;rw[h];cases Bp s ⟨2,now,f,n⟩ with
 | false=>exact .inr rfl
 | true=>
  refine .inl ?_;have e:U6 { s with fk:=now } f n=.inr (false,8):=by
   unfold U6;rw[if_neg (λx=>by have:=x.2.1;simp[hs] at this),if_neg (λx=>by have:=x.2.1;simp[hs] at this),if_neg (λx=>by have:=x.2.1;simp[hs] at this),if_neg (λx=>by have:=x.2.1;simp[hs] at this),if_neg (λx=>by have:=x.2.1;simp[hs] at this)]
  show (Dl { s with fk:=now } (U6 { s with fk:=now } f n)).2.2=8;rw[e];rfl
theorem OL{s:Q2}(h:QY s=true)(hs:s.fo=6)(now:Int)(f:ze)(n:Qq):(J1 s ⟨1,now,f,n⟩).2.2=8\/(J1 s ⟨1,now,f,n⟩).2.2=2:=by
 unfold J1;rw[h];cases Bp s ⟨1,now,f,n⟩ with
 | false=>exact .inr rfl
 | true=>
  refine .inl ?_;show (Dl { s with fk:=now } (UX { s with fk:=now })).2.2=8;unfold UX;rw[show (({ s with fk:=now }:Q2).fp==1&&({ s with fk:=now }:Q2).fo==1)=false by simp[hs]];rfl
theorem Cy{s:Q2}{k now:Int}(hk:k=3\/k=4)(hn:s.fk<=now/\now<=1099511627776):Bp s ⟨k,now,zg,⟨0,0,zg⟩⟩=true:=by
 unfold Bp;simp only[zF,zI,zY,bne_iff_ne];refine⟨?_,?_,hn.1,hn.2,by decide,.inl ?_⟩<;>rcases hk with rfl|rfl<;>decide
theorem Nd{s:Q2}(h:QY s=true)(ht:s.fq=iS){now:Int}(hn:s.fk<=now/\now<=1099511627776):J1 s ⟨3,now,zg,⟨0,0,zg⟩⟩=({ s with fk:=now },[],0):=by
 rw[Aa h (Cy (.inl rfl) hn)];show Dl { s with fk:=now } (MM { s with fk:=now })=_;have hd:(Je ({ s with fk:=now }:Q2).fq now).1=false:=by
  show (Je s.fq now).1=false;rw[ht];unfold Je;cases P9 now<;>rfl
 unfold MM;rw[hd];rfl
theorem Cz{s:Q2}(h:QY s=true){now:Int}(hn:s.fk<=now/\now<=1099511627776):J1 s ⟨4,now,zg,⟨0,0,zg⟩⟩=({ s with fk:=now },bif s.fp==2 then s.fM else [],0):=by
 rw[Aa h (Cy (.inr rfl) hn)];rfl
theorem DU{x:Int}(h:x=8\/x=2):Ok (.br 20004 (x != 8) (.done (x != 2)) (.done false):TT Bool) (λc=>c=false):=by
 rcases h with rfl|rfl
 ·exact Ok.f rfl (Ok.d rfl)
 ·exact Ok.t rfl (Ok.d rfl)
theorem XK{s:Q2}(h:QY s=true):Qj (jV s s) (λr=>r=true):=Vn s (L7 h).sK (by decide)
theorem gM(d:QE)(raw:Qq)(kind after:Int)(hd:Xh d)(ha:0<=after/\after < 65536):Qj (s6 d raw kind after) (λr=>r=true):=by
 obtain⟨hb,a0,b0⟩:=aH hd;have h:=Di _ hb;have hn:0<=(D0 (DJ d)).n/\(D0 (DJ d)).n<=65535:=hb.2;unfold s6;refine Qj.fn ?_;unfold g6;refine Ok.c gY λr hr=>?_;subst hr;refine Ok.f rfl (Ok.c (mE d hd) λr hr=>?_);clear hb;generalize D0 (DJ d)=p at *
 subst hr;have wa:Q0 after=after:=Z2 (by omega) (by omega);have wn:Q0 (p.n+after)=p.n+after:=Z2 (by omega) (by omega);refine Ok.g (Ok.g (Ok.b (R:=λe=>e=([],[],eC4 p,eS3 p,p.n,true)) ?_ λe he=>?_))
 ·refine Ok.s 8 (by decide) (λk y=>y=stS p k) rfl (λk y hy hk=>?_) λy hy=>?_
  ·subst hy
   match k,hk with
   | 0,_=>exact Ok.t rfl (Pv h.c1 h.s (Nat.zero_le _) (Nat.zero_le _) (Dj (Qqa h) true [] []) (Dj (Qqx h) true [] []) (Ok.g (Ok.g (Ok.g (Ok.g (Ok.d rfl))))))
   | 1,_=>
    have e5:=Qw1 h;rw[if_neg (λx=>x a0)] at e5;exact Ok.t rfl (Pv h.c2 h.s1 (Nat.zero_le _) (Nat.zero_le _) (Dj (Qqd h) true [] []) (Dj e5 true [] []) (Ok.g (Ok.g (Ok.g (Ok.g (Ok.d rfl))))))
   | 2,_=>
    have e6:=Qw0 h;rw[if_neg (λx=>x b0)] at e6;exact Ok.t rfl (Pv (h.c3 a0) h.s2 (Nat.zero_le _) (Nat.zero_le _) (Dj e6 true [] []) (Dj (Qqe h a0) true [] []) (Ok.g (Ok.g (Ok.g (Ok.g (Ok.d rfl))))))
   | k+3,hk=>
    refine Ok.t (by show decide (((k+3:Nat):Int) < 8)=true;rw[zI];omega) (idle (h.c4 a0) (h.s3 b0) (Ok.g (Ok.g (Ok.g (Ok.g (Ok.d ?_))))));show (eC4 p,eS3 p,true,([]:List Qq),([]:List Qq),Q0 (((k+3:Nat):Int)+1))=(eC4 p,eS3 p,true,[],[],((k+1+3:Nat):Int));rw[Z2 (by omega) (by omega)];congr 5
  ·subst hy;exact Ok.f rfl (Ok.d rfl)
 ·subst he;have zc:(eC4 p).fk=p.n:=rfl;have zs:(eS3 p).fk=p.n:=rfl;have hnow:p.n<=p.n+after/\p.n+after<=1099511627776:=by omega
  simp only[zc,zs,wa,wn];refine Ok.k (by simp only[zF,zI];omega) (Ok.p (R:=Sum.elim (λ_=>False) (λ_=>True)) ?_ (λe he=>he.elim) λe _=>Ok.d rfl);refine Ok.s 2 (by decide) (λk y=>y=(k:Int)) rfl (λk y hy hk=>?_) λy hy=>?_
  ·have f4:=h.c4 a0
   have f3:=h.s3 b0
   have m4:=(L7 f4).sm
   have m3:=(L7 f3).sm;subst hy
   match k,hk with
   | 0,_=>
    refine Ok.t rfl (Ok.HU rfl (Ok.f rfl (Ok.c (Qj.o (r:=Qqr (bs [120]) 32) (by kernel_rfl)) λr _=>?_)));refine Ok.tt (Ok.c (E9 _ _ m4) λr1 h1=>Ok.n (R:=λc=>c=false) (DU (by rw[h1];exact MW f4 rfl _ _ _)) λc hc=>Ok.f hc ?_);refine Ok.tt (Ok.g (Ok.g (Ok.c (E9 _ _ m4) λr1 h1=>Ok.n (R:=λc=>c=false) (DU (by rw[h1];exact MW f4 rfl _ _ _)) λc hc=>Ok.f hc ?_)));refine Ok.tt (Ok.g (Ok.g (Ok.c (E9 _ _ m4) λr1 h1=>Ok.n (R:=λc=>c=false) (DU (by rw[h1];exact OL f4 rfl _ _ _)) λc hc=>Ok.f hc ?_)));refine Ok.ff (Ok.c (E9 _ _ m4) λr4 h4=>Ok.c (E9 _ _ m4) λr5 h5=>?_);rw[Nd f4 rfl hnow] at h4;rw[Cz f4 hnow] at h5;subst h4;subst h5;have sh:=Fe f4 (N8.2 (by omega):P9 (p.n+after)=true);refine Ok.n (R:=λc=>c=false) (Ok.f rfl (Ok.f rfl (Ok.f rfl (Ok.f rfl (Ok.f rfl (Ok.c (XK sh) λr hr=>Ok.f (by rw[hr];rfl) (Ok.c (XK sh) λr hr=>Ok.d (by rw[hr];rfl)))))))) λc hc=>Ok.f hc (Ok.d rfl)
   | 1,_=>
    refine Ok.t rfl (Ok.HU rfl (Ok.f rfl (Ok.c (Qj.o (r:=Qqr (bs [120]) 32) (by kernel_rfl)) λr _=>?_)));refine Ok.tt (Ok.c (E9 _ _ m3) λr1 h1=>Ok.n (R:=λc=>c=false) (DU (by rw[h1];exact MW f3 rfl _ _ _)) λc hc=>Ok.f hc ?_);refine Ok.tt (Ok.g (Ok.g (Ok.c (E9 _ _ m3) λr1 h1=>Ok.n (R:=λc=>c=false) (DU (by rw[h1];exact MW f3 rfl _ _ _)) λc hc=>Ok.f hc ?_)));refine Ok.tt (Ok.g (Ok.g (Ok.c (E9 _ _ m3) λr1 h1=>Ok.n (R:=λc=>c=false) (DU (by rw[h1];exact OL f3 rfl _ _ _)) λc hc=>Ok.f hc ?_)));refine Ok.ff (Ok.c (E9 _ _ m3) λr4 h4=>Ok.c (E9 _ _ m3) λr5 h5=>?_);rw[Nd f3 rfl hnow] at h4;rw[Cz f3 hnow] at h5;subst h4;subst h5;have sh:=Fe f3 (N8.2 (by omega):P9 (p.n+after)=true);refine Ok.n (R:=λc=>c=false) (Ok.f rfl (Ok.f rfl (Ok.f rfl (Ok.f rfl (Ok.t rfl (Ok.r (x:=⟨5,2,eD p⟩) rfl rfl (Ok.f rfl (Ok.c (XK sh) λr hr=>Ok.f (by rw[hr];rfl) (Ok.c (XK sh) λr hr=>Ok.d (by rw[hr];rfl)))))))))) λc hc=>Ok.f hc (Ok.d rfl)
  ·subst hy;exact Ok.f rfl (Ok.d trivial)
end Go.Proofs.YtjdieimefebnfaaGreatDoor
namespace Go.Proofs.YtjdieimefebnfaaGreatDoor
open Go Go.EV Go.ChangeShapes
theorem own:ownKnob Tryz.prog.godebug=none:=by kernel_rfl
abbrev Eh:List (String×DataW Unit):=[("unicode/utf8.acceptRanges",Rows.laid_unicode_utf8_acceptRanges),("unicode/utf8.first",Rows.laid_unicode_utf8_first)]
theorem oV(os:Os):(World.laidAll Tryz.prog os Eh).Shaped Tryz.prog:=World.shaped_of_ZipB (by kernel_rfl) (by kernel_rfl)
theorem eE(os:Os)(args:Array Value):laidMetH Tryz.prog Eh ((World.laidAll Tryz.prog os Eh).forCall (λ_ _=>0) ⟨#[],args,[]⟩).memory:=by
 rw[MakeChecks.laidMetH_plain _ _ _ (by kernel_rfl)];exact laidMet_laidAll _ (by kernel_rfl) (by kernel_rfl)
def Bo(w:World):Gh:={ loc:=λ_=>none,own:=λ_=>none,Qp:=λB=>match w.heap[B]? with|some (.cells cs _ _)=>cs.size|_=>0 }
theorem Qyp{w:World}(_h:laidMetH Tryz.prog Eh w):Ha GG (Bo w) w:=λg cells hg=>by
 unfold GG at hg;cases hg
theorem Xr{w w':World}{γ':Gh}(h:Qd (Bo w) w γ' w')(may:MemPlace->Prop):w.keptBut w' may:=by
 refine⟨h.os,h.output,λi hi=>?_⟩;have:=(h.free i hi rfl).1;rw[this];cases w.heap[i]? with
 | none=>trivial
 | some x=>
  cases x with
  | cells c t fr=>exact⟨rfl,rfl,rfl,λ_ _=>rfl⟩
  | map es clock=>exact .inr ⟨rfl,rfl⟩
  | _=>rfl
def Ho(W:World)(l:List V)(cs:List Value):Prop:=cs.length=l.length/\∀(i:Nat) (c:V) (v:Value),l[i]?=some c->cs[i]?=some v->K4 (Bo W).Qp W c v
theorem Ho.one{W:World}{c:V}{v:Value}(h:K4 (Bo W).Qp W c v):Ho W [c] [v]:=⟨rfl,λi c' v' hc hv=>by
 cases i with
 | zero=>simp at hc hv;subst hc;subst hv;exact h
 | succ i=>simp at hc⟩
theorem Ho.append{W:World}{l m:List V}{cs ds:List Value}(h:Ho W l cs)(k:Ho W m ds):Ho W (l++m) (cs++ds):=
  ⟨by simp[h.1,k.1],λi c v hc hv=>by
    by_cases hi:i < l.length
    · rw[wq hi] at hc
      rw[wq (by rw[h.1];exact hi)] at hv;exact h.2 i c v hc hv
    · rw[wz (by omega)] at hc
      rw[wz (by rw[h.1];omega),h.1] at hv;exact k.2 _ c v hc hv⟩
def Rd(t:TypeId){α:Type}(c:α->List V)(I:α->Prop):Prop:=
 ∀(H:Type) (enc:TypeId×Value->H) (W:World) (O6:Nat) (cs:List Value) (x:DataW H×List MemPlace),DataW.trod enc Tryz.prog W 0 (λ_=>true) true O6 t cs=some x->∃a:α,I a/\Ho W (c a) cs
theorem MN{t:TypeId}{k:IntKind}(ht:Tryz.prog.underlying t=some (.int k)):Rd t (λn:Int=>[.int k n]) (λn=>(Lit.int k n).wf=true):=λH enc W O6 cs x h=>by
 obtain⟨n,rfl,_,hw⟩:=DataW.trod_int ht h;exact⟨n,hw,.one (.int k n)⟩
theorem rdStr{t:TypeId}(ht:Tryz.prog.underlying t=some .string):Rd t (λs:ze=>[.str s]) (λ_=>True):=λH enc W O6 cs x h=>by
 cases O6 with
 | zero=>simp[DataW.trod] at h
 | succ n=>
  unfold DataW.trod at h;rw[ht] at h;split at h<;>simp_all;exact⟨_,.one (.str _)⟩
theorem fld{H:Type}{enc:TypeId×Value->H}{W:World}{n:Nat}{fs:Array Field}{cs:List Value}{xs:List (DataW H×List MemPlace)}{t o z:Nat}{α:Type}{c:α->List V}{I:α->Prop}
  (hel:∀(i:Nat) (f:Field),fs[i]?=some f->DataW.trod enc Tryz.prog W 0 (λ_=>true) true n f.type ((cs.drop f.offset).take (Tryz.prog.cellsOf f.type))=xs[i]?) (hn:xs.length=fs.size) (i:Nat)
  (hf:(fs[i]?).map (λf=>(f.type,f.offset))=some (t,o)) (hz:Tryz.prog.cellsOf t=z) (r:Rd t c I):∃a:α,I a/\Ho W (c a) ((cs.drop o).take z):=by
 obtain⟨f,h1,h2⟩:=zG.1 hf;simp only[zO] at h2;obtain⟨rfl,rfl⟩:=h2;have hi:i < xs.length:=by rw[hn];exact(wF.1 h1).1
 have:=hel i f h1;rw[wl hi,hz] at this;exact r H enc W n _ _ this
theorem rS{H:Type}{enc:TypeId×Value->H}{W:World}{n m:Nat}{cs:List Value}{xs:List (DataW H×List MemPlace)}{t z:Nat}{α:Type}{c:α->List V}{I:α->Prop}
  (hel:∀(i:Nat),i < m->DataW.trod enc Tryz.prog W 0 (λ_=>true) true n t ((cs.drop (i * Tryz.prog.cellsOf t)).take (Tryz.prog.cellsOf t))=xs[i]?) (hn:xs.length=m) (i:Nat) (hi:i < m)
  (hz:Tryz.prog.cellsOf t=z) (r:Rd t c I):∃a:α,I a/\Ho W (c a) ((cs.drop (i * z)).take z):=by
 have:=hel i hi;rw[wl (by omega),hz] at this;exact r H enc W n _ _ this
noncomputable def Qen(t:TypeId):Array Field:=match Tryz.prog.underlying t with|some (.struct f)=>f|_=>#[]
theorem NG{H:Type}{enc:TypeId×Value->H}{W:World}{t:TypeId}{α:Type}{c:α->List V}{I:α->Prop}(r:Rd t c I){v:Value}{d:DataW H}{p:List MemPlace}(hv:∃cs,v=.agg cs)
  (h:DataW.Trod enc Tryz.prog W 0 (λ_=>true) true t v d p):∃a:α,I a/\Qy (Bo W) W (Qe []) Qk (.agg (c a)) v:=by
 obtain⟨cs,rfl⟩:=hv;obtain⟨O6,hf⟩:=h;obtain⟨a,hi,hc⟩:=r H enc W O6 _ _ hf;refine⟨a,hi,?_⟩;have:=Qy.agg (γ:=Bo W) (w:=W) (bs:=Qe []) (u:=Qk) (c a) cs.toList hc.1 (λi x y hx hy=>.data (hc.2 i x y hx hy));simpa using this
theorem IB{W:World}{base:Nat}{t:TypeId}{v:Value}{fs:Array Field}(ht:Tryz.prog.underlying t=some (.struct fs))(h:Value.okWide Tryz.prog W .any base t v):∃cs,v=.agg cs:=by
 simp only[Value.okWide,ht] at h;obtain⟨cs,h1,_⟩:=h;exact⟨cs,h1⟩
theorem laidOut:laidOutB Tryz.prog=true:=by kernel_rfl
theorem OW{w w':World}{γ':Gh}(h:Qd (Bo w) w γ' w'):RowKit.Below w.heap.size w w':=
 ⟨h.os,h.tape,h.output,h.size,λk hk=>(h.free k hk rfl).1⟩
theorem NF{H:Type}{enc:TypeId×Value->H}{W:World}{t:TypeId}{α:Type}{c:α->List V}{I:α->Prop}(r:Rd t c I){v:Value}{d:DataW H}{p:List MemPlace}(hv:v.cells=#[v])
  (h:DataW.Trod enc Tryz.prog W 0 (λ_=>true) true t v d p):∃a:α,I a/\∀x,c a=[x]->Qy (Bo W) W (Qe []) Qk x v:=by
 obtain⟨O6,hf⟩:=h;rw[hv] at hf;obtain⟨a,hi,hc⟩:=r H enc W O6 _ _ hf;refine⟨a,hi,λx hx=>?_⟩;rw[hx] at hc;exact .data (hc.2 0 x v rfl rfl)
theorem CV{W:World}{base:Nat}{t:TypeId}{k:IntKind}{v:Value}(ht:Tryz.prog.underlying t=some (.int k))(h:Value.okWide Tryz.prog W .any base t v):v.cells=#[v]:=by
 obtain⟨n,rfl⟩:=WideShapes.okWide_int ht h;rfl
section
variable {H:Type} {enc:TypeId×Value->H} {P:Program} {w:World} {base:Nat} {spare:zl} {held:Bool}
end
theorem yG{n:Int}(h:(Lit.int .u8 n).wf=true):0<=n/\n<=255:=by
 simp[Lit.wf,IntKind.min,IntKind.max,IntKind.signed,IntKind.bits] at h;omega
theorem MH{n:Int}(h:(Lit.int .u16 n).wf=true):0<=n/\n<=65535:=by
 simp[Lit.wf,IntKind.min,IntKind.max,IntKind.signed,IntKind.bits] at h;omega
end Go.Proofs.YtjdieimefebnfaaGreatDoor
namespace Go.Proofs.YtjdieimefebnfaaGreatDoor
open Go Go.EV
theorem u26:Tryz.prog.underlying 26=some (.struct (Qen 26)):=by kernel_rfl
theorem Qdr:Tryz.prog.cellsOf 26=7:=by kernel_rfl
theorem u22:Tryz.prog.underlying 22=some (.array 2 5):=by kernel_rfl
theorem cY:Tryz.prog.cellsOf 22=2:=by kernel_rfl
theorem u5:Tryz.prog.underlying 5=some (.int .u8):=by kernel_rfl
theorem zc5:Tryz.prog.cellsOf 5=1:=by kernel_rfl
theorem ln2{α:Type}{l:List α}(h:l.length=2):∃v0 v1,l=[v0,v1]:=by match l,h with|[v0,v1],_=>exact⟨v0,v1,rfl⟩
def c22(x:Ev):List V:=[.int .u8 x.a0,.int .u8 x.a1]
def Quo(x:Ev):Prop:=(Lit.int .u8 x.a0).wf=true/\(Lit.int .u8 x.a1).wf=true
theorem Qw6:Rd 22 c22 Quo:=λH enc W O6 cs x h=>by
 obtain⟨xs,m,rfl,-,hl,hn,hel⟩:=DataW.trod_array u22 h;rw[cY] at hl;obtain⟨v0,v1,rfl⟩:=ln2 hl;obtain⟨a0,i0,k0⟩:=rS hel hn 0 (by omega) zc5 (MN u5);obtain⟨a1,i1,k1⟩:=rS hel hn 1 (by omega) zc5 (MN u5);exact⟨⟨a0,a1⟩,⟨i0,i1⟩,k0.append k1⟩
theorem u24:Tryz.prog.underlying 24=some (.array 2 23):=by kernel_rfl
theorem Qun:Tryz.prog.cellsOf 24=2:=by kernel_rfl
theorem u23:Tryz.prog.underlying 23=some (.int .u16):=by kernel_rfl
theorem cZ:Tryz.prog.cellsOf 23=1:=by kernel_rfl
def Xv(x:EZ):List V:=[.int .u16 x.a0,.int .u16 x.a1]
def Qda(x:EZ):Prop:=(Lit.int .u16 x.a0).wf=true/\(Lit.int .u16 x.a1).wf=true
theorem Qa0:Rd 24 Xv Qda:=λH enc W O6 cs x h=>by
 obtain⟨xs,m,rfl,-,hl,hn,hel⟩:=DataW.trod_array u24 h;rw[Qun] at hl;obtain⟨v0,v1,rfl⟩:=ln2 hl;obtain⟨a0,i0,k0⟩:=rS hel hn 0 (by omega) cZ (MN u23);obtain⟨a1,i1,k1⟩:=rS hel hn 1 (by omega) cZ (MN u23);exact⟨⟨a0,a1⟩,⟨i0,i1⟩,k0.append k1⟩
theorem ln7{α:Type}{l:List α}(h:l.length=7):∃v0 v1 v2 v3 v4 v5 v6,l=[v0,v1,v2,v3,v4,v5,v6]:=by match l,h with|[v0,v1,v2,v3,v4,v5,v6],_=>exact⟨v0,v1,v2,v3,v4,v5,v6,rfl⟩
def c26(x:QE):List V:=[.int .u8 x.fD.a0,.int .u8 x.fD.a1,.int .u16 x.fC.a0,.int .u16 x.fC.a1,.int .u16 x.gc,.int .u8 x.gd.a0,.int .u8 x.gd.a1]
def Qui(x:QE):Prop:=Quo x.fD/\Qda x.fC/\(Lit.int .u16 x.gc).wf=true/\Quo x.gd
theorem Qxv:Rd 26 c26 Qui:=λH enc W O6 cs x h=>by
 obtain⟨xs,m,rfl,-,hl,hn,hel⟩:=DataW.trod_struct u26 h;rw[Qdr] at hl;obtain⟨v0,v1,v2,v3,v4,v5,v6,rfl⟩:=ln7 hl;obtain⟨a0,i0,k0⟩:=fld hel hn 0 (t:=22) (o:=0) (by kernel_rfl) cY Qw6;obtain⟨a1,i1,k1⟩:=fld hel hn 1 (t:=24) (o:=2) (by kernel_rfl) Qun Qa0;obtain⟨a2,i2,k2⟩:=fld hel hn 2 (t:=23) (o:=4) (by kernel_rfl) cZ (MN u23);obtain⟨a3,i3,k3⟩:=fld hel hn 3 (t:=22) (o:=5) (by kernel_rfl) cY Qw6;exact⟨⟨a0,a1,a2,a3⟩,⟨i0,i1,i2,i3⟩,k0.append (k1.append (k2.append k3))⟩
theorem u34:Tryz.prog.underlying 34=some (.struct (Qen 34)):=by kernel_rfl
theorem Qdn:Tryz.prog.cellsOf 34=3:=by kernel_rfl
theorem u3:Tryz.prog.underlying 3=some (.int .i64):=by kernel_rfl
theorem zc3:Tryz.prog.cellsOf 3=1:=by kernel_rfl
theorem u9:Tryz.prog.underlying 9=some .string:=by kernel_rfl
theorem zc9:Tryz.prog.cellsOf 9=1:=by kernel_rfl
theorem ln3{α:Type}{l:List α}(h:l.length=3):∃v0 v1 v2,l=[v0,v1,v2]:=by match l,h with|[v0,v1,v2],_=>exact⟨v0,v1,v2,rfl⟩
def c34(x:Qq):List V:=[.int .i64 x.fw,.int .i64 x.fU,.str x.fG]
def Qon(x:Qq):Prop:=(Lit.int .i64 x.fw).wf=true/\(Lit.int .i64 x.fU).wf=true/\True
theorem Qxt:Rd 34 c34 Qon:=λH enc W O6 cs x h=>by
 obtain⟨xs,m,rfl,-,hl,hn,hel⟩:=DataW.trod_struct u34 h;rw[Qdn] at hl;obtain⟨v0,v1,v2,rfl⟩:=ln3 hl;obtain⟨a0,i0,k0⟩:=fld hel hn 0 (t:=3) (o:=0) (by kernel_rfl) zc3 (MN u3);obtain⟨a1,i1,k1⟩:=fld hel hn 1 (t:=3) (o:=1) (by kernel_rfl) zc3 (MN u3);obtain⟨a2,i2,k2⟩:=fld hel hn 2 (t:=9) (o:=2) (by kernel_rfl) zc9 (rdStr u9);exact⟨⟨a0,a1,a2⟩,⟨i0,i1,i2⟩,k0.append (k1.append k2)⟩
theorem u4:Tryz.prog.underlying 4=some .bool:=by kernel_rfl
theorem yT{d:QE}(h:Qui d):GK d:=have a:=MH h.2.1.1;have b:=MH h.2.1.2;⟨⟨a.1,by omega⟩,⟨b.1,by omega⟩,(yG h.2.2.2.1).1,(yG h.q).1⟩
theorem Qu1{d:QE}(h:Qui d):Xh d:=have k:=MH h.2.2.1;⟨yT h,k.1,by omega⟩
end Go.Proofs.YtjdieimefebnfaaGreatDoor
