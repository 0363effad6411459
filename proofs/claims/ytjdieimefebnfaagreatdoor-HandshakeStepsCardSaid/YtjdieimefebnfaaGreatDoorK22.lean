/- What the law's own handshake comes to: the three steps with keys. The law's own handshake goes as the chapter says: `works` is true. The laws of step ..; no conditions. -/
import Derived.Test.YtjdieimefebnfaaGreatDoorK21
import Derived.Test.YtjdieimefebnfaaGreatDoorK20
import Derived.Test.YtjdieimefebnfaaGreatDoorK18
import Derived.Test.YtjdieimefebnfaaGreatDoorK8
import Derived.Test.YtjdieimefebnfaaGreatDoorRows
import Derived.ChangeSame
import Derived.ChangeVars
import Derived.JoinedOf
import Derived.RowKit
import Derived.ProofKit
import Derived.LaidMore
import Derived.Lay
import Derived.OpenShut
import Derived.Carry
import Derived.Stop.Joined
import Derived.Lib.LaidU8
import Derived.ChangeArms
import Derived.DataReads
import Derived.SevenTiedAt
import Derived.Test.YtjdieimefebnfaaGreatDoorK15
import Derived.KernelRfl
set_option linter.unusedVariables false
set_option linter.unusedSimpArgs false
set_option maxRecDepth 100000
namespace Go.Proofs.YtjdieimefebnfaaGreatDoor
open Go Go.EV
theorem stepOf(s:Q4)(v:Q2)(h1:Zz s=true)(h2:iG s v=true):D5 s v=Eb { s with fj:=v.fj } (Er { s with fj:=v.fj } v):=by unfold D5;rw[h1,h2];rfl
theorem Qws:Fq (Uh++WU |> λ_=>gX++gD) (Uh++WU) aF=Jc:=by
 unfold Fq
 rw[J1 wf5,J1 wf6]
theorem Qqw:Ah gX gD Uh WU=Jc:=Qws
theorem oI:P0 Jc EJ (EI++K5)=N7 wK2 wH1:=by
 unfold P0 Fq
 rw[J1 wf7,J1 wf8,J1 Qwr]
theorem oA:P0 Jc Di Xw=Jb:=by
 unfold P0 Fq
 rw[J1 wf7,J1 wf9,J1 Qwg,J1 Qwf]
theorem wNz:¬(gX=Wj\/gD=Wj):=of_decide_eq_false Qwa
theorem Qq7:(Zo K5).fL=K5.extract 23 55:=J1 (by kernel_rfl)
theorem Qq6:(Zo I0).fL=I0.extract 23 55:=J1 (by kernel_rfl)
theorem Qwc:I5 mM Yl=.inl (mK,[⟨4,2,B9⟩]):=by
 have eM:DW mM Yl=Jc:=by
  unfold DW
  rw[J1 Qqj,J1 Qqy,J1 Qqz,Qq6]
  show Ah (xS KR _) (xS Yf _) Uh WU=_
  rw[J1 wf1,J1 wf2]
  exact Qqw
 have eT:ML mM Yl=EI:=J1 Qwl
 have eB:YM mM Yl=B9:=by
  unfold YM
  rw[eM,eT]
  show P0 Jc EJ (EI++K5)++K5=_
  rw[oI]
  exact J1 Qwn
 unfold I5
 rw[eM,eT,eB,J1 Qqj,J1 Qqy,J1 Qqz,Qwm,Qq6,J1 Qqh]
 show (if ¬64 < Yl.size then _ else if true=false then _ else if UP (Zo I0) [MB] 1000≠0 then _ else if xS KR (I0.extract 23 55)=Wj\/xS Yf FE=Wj then _ else _)=_
 rw[Qwo,J1 wf1,J1 wf2,if_neg (by decide),if_neg (by decide),if_neg (by decide),if_neg wNz]
 rfl
theorem Qwp:G5 mW B9=.inl (wS3,[⟨5,2,Jb⟩]):=by
 have eM:Kb mW B9=Jc:=by
  unfold Kb
  rw[J1 Qqq,Qq7]
  show Ah (xS Hy FK) (xS AS _) Uh WU=_
  rw[J1 wf3,J1 wf4]
  exact Qqw
 have eT:WK mW B9=Xw:=J1 Qqh
 have eC:JU mW B9=Jb:=by
  unfold JU
  rw[eM,eT]
  exact oA
 unfold G5
 rw[eM,eT,eC,J1 Qqq,Qwk,Qq7,J1 Qqu]
 show (if ¬32 < B9.size then _ else if true=false then _ else if UP (Zo K5) [Da] 1000≠0 then _ else if xS Hy FK=Wj\/xS AS (K5.extract 23 55)=Wj then _ else if B9.extract 0 32≠P0 Jc EJ (EI++K5) then _ else _)=_
 rw[Qwi,J1 wf3,J1 wf4,if_neg (by decide),if_neg (by decide),if_neg (by decide),if_neg wNz,if_neg (by rw[oI];exact λh=>h (J1 Qww).symm)]
 rfl
theorem Qwb:UF mK Jb=.inl (wC4,[]):=by
 unfold UF
 rw[if_neg (by decide),if_neg (λh=>h oA.symm)]
 show Sum.inl (({ mK with fE:=Xw++Kq 5 Jb,fw:=6,fo:=[],fC:=nY }:Q4),([]:List Qq))=_
 rw[J1 Qqu]
 rfl
theorem wk6:D5 mM ⟨2,1000,bs [120],⟨3,1,Yl⟩⟩=(mK,[⟨4,2,B9⟩],0):=by
 rw[stepOf _ _ Qwx (by kernel_rfl)]
 have e:Er { mM with fj:=1000 } ⟨2,1000,bs [120],⟨3,1,Yl⟩⟩=I5 mM Yl:=by
  unfold Er
  rw[if_neg (by decide),if_pos (by decide)]
  unfold H5
  rw[if_neg (by decide),if_pos (by decide)]
  rfl
 show Eb _ (Er { mM with fj:=1000 } _)=_
 rw[e,Qwc]
 rfl
theorem wk7:D5 mW ⟨2,1000,bs [102,97,114],⟨4,2,B9⟩⟩=(wS3,[⟨5,2,Jb⟩],0):=by
 rw[stepOf _ _ Qwd (by kernel_rfl)]
 have e:Er { mW with fj:=1000 } ⟨2,1000,bs [102,97,114],⟨4,2,B9⟩⟩=G5 mW B9:=by
  unfold Er
  rw[if_neg (by decide),if_pos (by decide)]
  unfold H5
  rw[if_neg (by decide),if_neg (by decide),if_neg (by decide),if_neg (by decide),if_pos (by decide)]
  rfl
 show Eb _ (Er { mW with fj:=1000 } _)=_
 rw[e,Qwp]
 rfl
theorem wk8:D5 mK ⟨2,1000,zd,⟨5,2,Jb⟩⟩=(wC4,[],0):=by
 rw[stepOf _ _ Qwe (by kernel_rfl)]
 have e:Er { mK with fj:=1000 } ⟨2,1000,zd,⟨5,2,Jb⟩⟩=UF mK Jb:=by
  unfold Er
  rw[if_neg (by decide),if_pos (by decide)]
  unfold H5
  rw[if_neg (by decide),if_neg (by decide),if_pos (by decide)]
  rfl
 show Eb _ (Er { mK with fj:=1000 } _)=_
 rw[e,Qwb]
 rfl
theorem Vr{α:Type}{s:EV.Spec Tryz.prog GG α}{g:TT α}{Q:α->Prop}(h:s.o=g.run)(k:Ok g Q):Qz s Q:=let ⟨r,h1,h2⟩:=k;⟨r,h.trans h1,h2⟩
theorem qX(a:Int)(b c d:za)(e:List za):(Gw a b c d e).o=(Bg a b c d e).run:=rfl
theorem Pn(b:Z5)(hv:O7 b=true):Qz (s47 b) (λr=>r=(I7 (He (X8 b)),0)):=by
 grind [oF,Qz.fn,Ok.c,Mg,Ok.f,GD,Ok.d,s47,g47]
theorem newEq{side now:Int}{sec bdg fr rn ck k:za}{ps:List za}(h:Zz (Aq side sec bdg fr rn ck ps now)=true)(h1:(Zo bdg).fL=k)(h2:xS sec YF=k):GA side sec bdg fr rn ck ps now=(Aq side sec bdg fr rn ck ps now,0):=by
 unfold GA
 rw[h,h1,h2,zR rfl];rfl
def Qzu(s:Q4)(p:za):Bool×za×Int×Int×Int×za×za×za×za×za×(List za)×Int×za×za×za×za×za×(List Qq)×Int×Int×Int×Int:=
 (true,p,s.fF,s.fw,s.fj,s.gc,s.fh,s.fX,s.fB,s.fZ,s.ft,s.fm,s.fE,s.fk.fB,s.fk.fQ,s.fk.fh,s.fI,s.fo,s.fC.fq,s.fC.fV,s.fC.fM,s.gd)
theorem vCb:O7 ⟨bs [99],K5.extract 23 55,0,100000,7⟩=true:=wv8
theorem vSb:O7 ⟨bs [115],I0.extract 23 55,0,100000,7⟩=true:=wv9
theorem eCb:X8 ⟨bs [99],K5.extract 23 55,0,100000,7⟩=K5:=J1 wv6
theorem eSb:X8 ⟨bs [115],I0.extract 23 55,0,100000,7⟩=I0:=J1 wv7
theorem sC:Qz (s80 1 (bs [99]) (bs [7]) zd []) (λr=>r=(wA,Da,true)):=by
 unfold s80
 refine Qz.fn ?_
 unfold g80
 refine Ok.c (Qz.o wu1) λr hr=>Ok.c (JI r) λr2 hr2=>?_
 subst hr
 rw[if_pos (by decide),J1 wv4] at hr2
 subst hr2
 refine Ok.c (LQ ⟨bs [99],K5.extract 23 55,0,100000,7⟩) λr hr=>Ok.c (Pn ⟨bs [99],K5.extract 23 55,0,100000,7⟩ vCb) λr2 hr2=>?_
 rw[if_pos vCb,eCb] at hr
 rw[eCb,J1 Qq9] at hr2
 subst hr hr2
 refine Ok.k (by decide) (Ok.c (Qz.o wu4) λr hr=>Ok.k (by decide) (Ok.c (Qz.o wu5) λr2 hr2=>?_))
 subst hr hr2
 refine Ok.c (Pf 1 Yf K5 KR Uh zd [] 1000 (Yr (s:=wA) wv1).sm) λr hr=>?_
 rw[newEq (k:=K5.extract 23 55) wv1 (J1 Qq8) (J1 wv4)] at hr
 subst hr
 exact Ok.t rfl (Ok.t rfl (Ok.t rfl (Ok.d rfl)))
theorem sS:Qz (Gw 2 (bs [115]) (bs [5]) FW [Da]) (λr=>r=Qzu wS MB):=by
 refine Vr (qX _ _ _ _ _) ?_
 unfold Bg
 refine Ok.c (Qz.o wu2) λr hr=>Ok.c (JI r) λr2 hr2=>?_
 subst hr
 rw[if_pos (by decide),J1 wv5] at hr2
 subst hr2
 refine Ok.c (LQ ⟨bs [115],I0.extract 23 55,0,100000,7⟩) λr hr=>Ok.c (Pn ⟨bs [115],I0.extract 23 55,0,100000,7⟩ vSb) λr2 hr2=>?_
 rw[if_pos vSb,eSb] at hr
 rw[eSb,J1 Qwq] at hr2
 subst hr hr2
 refine Ok.g (Ok.k (by decide) (Ok.c (Qz.o wu6) λr hr=>Ok.k (by decide) (Ok.c (Qz.o wu7) λr2 hr2=>?_)))
 subst hr hr2
 refine Ok.c (Pf 2 Hy I0 AS WU FW [Da] 1000 (Yr (s:=wS) wv2).sm) λr hr=>?_
 rw[newEq (k:=I0.extract 23 55) wv2 (J1 Qw9) (J1 wv5)] at hr
 subst hr
 exact Ok.t rfl (Ok.t rfl (Ok.t rfl (Ok.d rfl)))
theorem sB:Qz (Gw 1 (bs [99]) (bs [7]) zd [MB]) (λr=>r=Qzu wC Da):=by
 refine Vr (qX _ _ _ _ _) ?_
 unfold Bg
 refine Ok.c (Qz.o wu1) λr hr=>Ok.c (JI r) λr2 hr2=>?_
 subst hr
 rw[if_pos (by decide),J1 wv4] at hr2
 subst hr2
 refine Ok.c (LQ ⟨bs [99],K5.extract 23 55,0,100000,7⟩) λr hr=>Ok.c (Pn ⟨bs [99],K5.extract 23 55,0,100000,7⟩ vCb) λr2 hr2=>?_
 rw[if_pos vCb,eCb] at hr
 rw[eCb,J1 Qq9] at hr2
 subst hr hr2
 refine Ok.g (Ok.k (by decide) (Ok.c (Qz.o wu4) λr hr=>Ok.k (by decide) (Ok.c (Qz.o wu5) λr2 hr2=>?_)))
 subst hr hr2
 refine Ok.c (Pf 1 Yf K5 KR Uh zd [MB] 1000 (Yr (s:=wC) wv3).sm) λr hr=>?_
 rw[newEq (k:=K5.extract 23 55) wv3 (J1 Qq8) (J1 wv4)] at hr
 subst hr
 exact Ok.t rfl (Ok.t rfl (Ok.t rfl (Ok.d rfl)))
theorem bK:Qz s39 (λr=>r=(wC,wS,true)):=by
 have key:Ok g39 (λr=>r=(wC,wS,true)):=by
  unfold g39
  refine Ok.c (Qz.o wu3) λr hr=>Ok.c sC λr2 hr2=>?_
  subst hr hr2
  refine Ok.c sS λr hr=>?_
  subst hr
  refine Ok.c sB λr hr=>?_
  subst hr
  exact Ok.t rfl (Ok.t rfl (Ok.d rfl))
 grind [oF,Qz.fn,k39,s39]
theorem Ed{s s2:Q4}{f:za}{n m:Qq}(hs:Sm s)(h:D5 s ⟨2,s.fj,f,n⟩=(s2,[m],0)):Qz (lU s f n) (λr=>r=(s2,m,true)):=by
 unfold lU
 refine Qz.fn ?_
 unfold g40
 refine Ok.c (Yq s _ hs) λr hr=>?_
 rw[h] at hr
 subst hr
 exact Ok.n (R:=λc=>c=false) (Ok.f rfl (Ok.d rfl)) λc hc=>Ok.f hc (Ok.r rfl rfl (Ok.d rfl))
theorem Vp{s s2:Q4}{v:Q2}{l:List Qq}{e:Int}(h:D5 s v=(s2,l,e)):Sm s2:=by
 have z:=(KV s v).1
 rw[h] at z
 exact z.sm (by decide)
theorem xH:Qz dX (λr=>r=true):=by
 have q1:D5 wC ⟨1,1000,zd,⟨0,0,zd⟩⟩=_:=Ja wk1
 have q2:=Ja wk2
 have q3:=Ja wk3
 have q4:=Ja wk4
 have q5:=Ja wk5
 have q9:D5 mE ⟨3,1399,zd,⟨0,0,zd⟩⟩=_:=Ja wk9
 have q10:D5 mE ⟨3,1400,zd,⟨0,0,zd⟩⟩=_:=Ja Qwh
 have q11:D5 wS ⟨1,1000,zd,⟨0,0,zd⟩⟩=_:=Ja Qwu
 have q12:=Ja Qwj
 have q13:=Ja Qwy
 have mC:=(Yr wv3).sm
 have mS:=(Yr wv2).sm
 have mC1:=Vp q1
 have mS1:=Vp q2
 have mC2:=Vp q3
 have mS2:=Vp q4
 have mC3:=Vp wk6
 have key:Ok g14 (λr=>r=true):=by
  unfold g14
  refine Ok.c bK λr hr=>?_
  subst hr
  refine Ok.f rfl (Ok.c (Yq wC _ mC) λr hr=>?_)
  rw[q1] at hr
  subst hr
  refine Ok.n (R:=λc=>c=false) (Ok.f rfl (Ok.f rfl (Ok.f rfl (Ok.r rfl rfl (Ok.f rfl (Ok.r rfl rfl (Ok.f rfl (Ok.r rfl rfl (Ok.d rfl))))))))) λc hc=>Ok.f hc (Ok.r rfl rfl ?_)
  refine Ok.c (Ed mS q2) λr hr=>?_
  subst hr
  refine Ok.c (Ed mC1 q3) λr hr=>?_
  subst hr
  refine Ok.c (Ed mS1 q4) λr hr=>?_
  subst hr
  refine Ok.c (Ed mS1 q5) λr hr=>?_
  subst hr
  refine Ok.c (Ed mC2 wk6) λr hr=>?_
  subst hr
  refine Ok.c (Ed mS2 wk7) λr hr=>?_
  subst hr
  refine Ok.n (R:=λc=>c=false) (Ok.f rfl (Ok.f rfl (Ok.f rfl (Ok.f rfl (Ok.f rfl (Ok.d rfl)))))) λc hc=>Ok.f hc ?_
  refine Ok.c (Yq mK _ mC3) λr hr=>?_
  rw[wk8] at hr
  subst hr
  refine Ok.n (R:=λc=>c=true) ?_ λc1 h1=>Ok.n (R:=λc=>c=true) ?_ λc2 h2=>?_
  ·iterate 18 refine Ok.t rfl ?_
   exact Ok.d rfl
  ·exact Ok.t rfl (Ok.t rfl (Ok.t rfl (Ok.t (by decide) (Ok.t (by decide) (Ok.t (by decide) (Ok.t (by decide) (Ok.d (by decide))))))))
  refine Ok.c (Yq mE _ mC1) λr hr=>?_
  rw[q9] at hr
  subst hr
  refine Ok.c (Yq mE _ mC1) λr hr=>?_
  rw[q10] at hr
  subst hr
  refine Ok.n (R:=λc=>c=true) ?_ λc3 h3=>?_
  ·exact Ok.t rfl (Ok.t rfl (Ok.t rfl (Ok.t rfl (Ok.t rfl (Ok.r rfl rfl (Ok.r rfl rfl (Ok.t (by decide) (Ok.d rfl))))))))
  refine Ok.c (Yq wS _ mS) λr hr=>?_
  rw[q11] at hr
  subst hr
  refine Ok.c (Yq wS _ mS) λr hr=>?_
  rw[q12] at hr
  subst hr
  refine Ok.k (by decide) (Ok.c (Yq mE _ mC1) λr hr=>?_)
  rw[q13] at hr
  subst hr
  exact Ok.n (R:=λc=>c=true) (Ok.t h1 (Ok.t h2 (Ok.t h3 (Ok.t rfl (Ok.t rfl (Ok.d rfl)))))) λc hc=>Ok.d hc
 grind [oF,Qz.fn,k14,dX]
theorem xX(d:Zq)(p:Zx)(x:HC)(c:Za)(raw:Qq)(af:Dd)(hu:UJ d)(hs:0<=p.gt/\p.gt < 256)(hc:0<=c.fq/\c.fq < 256):Qz (s3 d p x c raw af) (λr=>r=true):=qB xH d p x c raw af hu hs hc
end Go.Proofs.YtjdieimefebnfaaGreatDoor
namespace Go.Proofs.YtjdieimefebnfaaGreatDoor
open Go Go.EV Go.ChangeShapes
theorem own:ownKnob Tryz.prog.godebug=none:=by kernel_rfl
abbrev Mb:List (String×DataW Unit):=[("unicode/utf8.acceptRanges",Rows.laid_unicode_utf8_acceptRanges),("unicode/utf8.first",Rows.laid_unicode_utf8_first)]
theorem eL(os:Os):(World.laidAll Tryz.prog os Mb).Shaped Tryz.prog:=World.shaped_of_ZipB (by kernel_rfl) (by kernel_rfl)
theorem jK(os:Os)(args:Array Value):laidMetH Tryz.prog Mb ((World.laidAll Tryz.prog os Mb).forCall (λ_ _=>0) ⟨#[],args,[]⟩).memory:=by
 rw[MakeChecks.laidMetH_plain _ _ _ (by kernel_rfl)]
 exact laidMet_laidAll _ (by kernel_rfl) (by kernel_rfl)
def NT(w:World):Gh:={ loc:=λ_=>none,own:=λ_=>none,Qp:=λB=>match w.heap[B]? with|some (.cells cs _ _)=>cs.size|_=>0 }
theorem cP{w:World}(_h:laidMetH Tryz.prog Mb w):UH GG (NT w) w:=λg cells hg=>by
 unfold GG at hg
 cases hg
theorem DQ{w w':World}{γ':Gh}(h:Qa (NT w) w γ' w')(may:MemPlace->Prop):w.keptBut w' may:=by
 refine⟨h.os,h.output,λi hi=>?_⟩
 have:=(h.free i hi rfl).1
 rw[this]
 cases w.heap[i]? with
 | none=>trivial
 | some x=>
  cases x with
  | cells c t fr=>exact⟨rfl,rfl,rfl,λ_ _=>rfl⟩
  | map es clock=>exact .inr ⟨rfl,rfl⟩
  | _=>rfl
theorem FO{H:Type}{enc:TypeId×Value->H}{P:Program}{w:World}{base:Nat}{spare:zh}{held:Bool}{t t' t'' t3 t4 t5:TypeId}{args:Array Value}{ds:List (DataW H)}{ps:List MemPlace}(h:DataW.TrodAll enc P w base spare held [t,t',t'',t3,t4,t5] args.toList ds ps) :
  ∃v v' v'' v3 v4 v5 d d' d'' d3 d4 d5 p p' p'' p3 p4 p5,args=#[v,v',v'',v3,v4,v5]/\ds=[d,d',d'',d3,d4,d5]/\ps=p++(p'++(p''++(p3++(p4++p5))))/\DataW.Trod enc P w base spare held t v d p/\DataW.Trod enc P w base spare held t' v' d' p'/\DataW.Trod enc P w base spare held t'' v'' d'' p''/\
   DataW.Trod enc P w base spare held t3 v3 d3 p3/\DataW.Trod enc P w base spare held t4 v4 d4 p4/\DataW.Trod enc P w base spare held t5 v5 d5 p5:=by
 obtain⟨v,vs,d,ds',p,q,hargs,rfl,rfl,hd,hrest⟩:=ChangeShapes.trodAll_cons h
 obtain⟨v',vs',d',ds'',p',q',rfl,rfl,rfl,hd',hrest'⟩:=ChangeShapes.trodAll_cons hrest
 obtain⟨v'',vs'',d'',ds''',p'',q'',rfl,rfl,rfl,hd'',hrest''⟩:=ChangeShapes.trodAll_cons hrest'
 obtain⟨v3,vs3,d3,ds3,p3,q3,rfl,rfl,rfl,hd3,hrest3⟩:=ChangeShapes.trodAll_cons hrest''
 obtain⟨v4,vs4,d4,ds4,p4,q4,rfl,rfl,rfl,hd4,hrest4⟩:=ChangeShapes.trodAll_cons hrest3
 obtain⟨v5,vs5,d5,ds5,p5,q5,rfl,rfl,rfl,hd5,hrest5⟩:=ChangeShapes.trodAll_cons hrest4
 obtain⟨rfl,rfl,rfl⟩:=ChangeShapes.trodAll_nil hrest5
 exact⟨v,v',v'',v3,v4,v5,d,d',d'',d3,d4,d5,p,p',p'',p3,p4,p5,Array.toList_inj.1 hargs,rfl,by simp,hd,hd',hd'',hd3,hd4,hd5⟩
theorem FL{H:Type}{enc:TypeId×Value->H}{P:Program}{w:World}{base:Nat}{spare:zh}{held:Bool}{t t' t'' t3 t4 t5:TypeId}{v v' v'' v3 v4 v5:Value}{d d' d'' d3 d4 d5:DataW H}{p p' p'' p3 p4 p5:List MemPlace}(h:DataW.Trod enc P w base spare held t v d p)(h':DataW.Trod enc P w base spare held t' v' d' p')
  (h'':DataW.Trod enc P w base spare held t'' v'' d'' p'') (h3:DataW.Trod enc P w base spare held t3 v3 d3 p3) (h4:DataW.Trod enc P w base spare held t4 v4 d4 p4) (h5:DataW.Trod enc P w base spare held t5 v5 d5 p5) :
  DataW.TrodAll enc P w base spare held [t,t',t'',t3,t4,t5] [v,v',v'',v3,v4,v5] [d,d',d'',d3,d4,d5] (p++(p'++(p''++(p3++(p4++p5))))):=⟨p,_,h,trodAll_cons_mk h' (trodAll_cons_mk h'' (ChangeShapes.trodAll_mk3 h3 h4 h5)),rfl⟩
def UK(W:World)(l:List V)(cs:List Value):Prop:=cs.length=l.length/\∀(i:Nat) (c:V) (v:Value),l[i]?=some c->cs[i]?=some v->K3 (NT W).Qp W c v
theorem UK.one{W:World}{c:V}{v:Value}(h:K3 (NT W).Qp W c v):UK W [c] [v]:=⟨rfl,λi c' v' hc hv=>by
 cases i with
 | zero=>simp at hc hv;subst hc;subst hv;exact h
 | succ i=>simp at hc⟩
theorem UK.append{W:World}{l m:List V}{cs ds:List Value}(h:UK W l cs)(k:UK W m ds):UK W (l++m) (cs++ds):=
  ⟨by simp[h.1,k.1],λi c v hc hv=>by
    by_cases hi:i < l.length
    · rw[wg hi] at hc
      rw[wg (by rw[h.1];exact hi)] at hv
      exact h.2 i c v hc hv
    · rw[wl (by omega)] at hc
      rw[wl (by rw[h.1];omega),h.1] at hv
      exact k.2 _ c v hc hv⟩
def Rd(t:TypeId){α:Type}(c:α->List V)(I:α->Prop):Prop:=
 ∀(H:Type) (enc:TypeId×Value->H) (W:World) (I1:Nat) (cs:List Value) (x:DataW H×List MemPlace),DataW.trod enc Tryz.prog W 0 (λ_=>true) true I1 t cs=some x->∃a:α,I a/\UK W (c a) cs
theorem C1{t:TypeId}{k:IntKind}(ht:Tryz.prog.underlying t=some (.int k)):Rd t (λn:Int=>[.int k n]) (λn=>(Lit.int k n).wf=true):=λH enc W I1 cs x h=>by
 obtain⟨n,rfl,_,hw⟩:=DataW.trod_int ht h
 exact⟨n,hw,.one (.int k n)⟩
theorem rdStr{t:TypeId}(ht:Tryz.prog.underlying t=some .string):Rd t (λs:za=>[.str s]) (λ_=>True):=λH enc W I1 cs x h=>by
 cases I1 with
 | zero=>simp[DataW.trod] at h
 | succ n=>
  unfold DataW.trod at h
  rw[ht] at h
  split at h<;>simp_all
  exact⟨_,.one (.str _)⟩
theorem Nk{H:Type}{enc:TypeId×Value->H}{W:World}{n:Nat}{fs:Array Field}{cs:List Value}{xs:List (DataW H×List MemPlace)}{t o z:Nat}{α:Type}{c:α->List V}{I:α->Prop}
  (hel:∀(i:Nat) (f:Field),fs[i]?=some f->DataW.trod enc Tryz.prog W 0 (λ_=>true) true n f.type ((cs.drop f.offset).take (Tryz.prog.cellsOf f.type))=xs[i]?) (hn:xs.length=fs.size) (i:Nat)
  (hf:(fs[i]?).map (λf=>(f.type,f.offset))=some (t,o)) (hz:Tryz.prog.cellsOf t=z) (r:Rd t c I):∃a:α,I a/\UK W (c a) ((cs.drop o).take z):=by
 obtain⟨f,h1,h2⟩:=zE.1 hf
 simp only[zJ] at h2
 obtain⟨rfl,rfl⟩:=h2
 have hi:i < xs.length:=by rw[hn];exact(wo.1 h1).1
 have:=hel i f h1
 rw[wd hi,hz] at this
 exact r H enc W n _ _ this
theorem CB{H:Type}{enc:TypeId×Value->H}{W:World}{n m:Nat}{cs:List Value}{xs:List (DataW H×List MemPlace)}{t z:Nat}{α:Type}{c:α->List V}{I:α->Prop}
  (hel:∀(i:Nat),i < m->DataW.trod enc Tryz.prog W 0 (λ_=>true) true n t ((cs.drop (i * Tryz.prog.cellsOf t)).take (Tryz.prog.cellsOf t))=xs[i]?) (hn:xs.length=m) (i:Nat) (hi:i < m)
  (hz:Tryz.prog.cellsOf t=z) (r:Rd t c I):∃a:α,I a/\UK W (c a) ((cs.drop (i * z)).take z):=by
 have:=hel i hi
 rw[wd (by omega),hz] at this
 exact r H enc W n _ _ this
noncomputable def jT(t:TypeId):Array Field:=match Tryz.prog.underlying t with|some (.struct f)=>f|_=>#[]
theorem JW{H:Type}{enc:TypeId×Value->H}{W:World}{t:TypeId}{α:Type}{c:α->List V}{I:α->Prop}(r:Rd t c I){v:Value}{d:DataW H}{p:List MemPlace}(hv:∃cs,v=.agg cs)
  (h:DataW.Trod enc Tryz.prog W 0 (λ_=>true) true t v d p):∃a:α,I a/\Qu (NT W) W (Qe []) Qk (.agg (c a)) v:=by
 obtain⟨cs,rfl⟩:=hv
 obtain⟨I1,hf⟩:=h
 obtain⟨a,hi,hc⟩:=r H enc W I1 _ _ hf
 refine⟨a,hi,?_⟩
 have:=Qu.agg (γ:=NT W) (w:=W) (bs:=Qe []) (u:=Qk) (c a) cs.toList hc.1 (λi x y hx hy=>.data (hc.2 i x y hx hy))
 simpa using this
theorem YH{W:World}{base:Nat}{t:TypeId}{v:Value}{fs:Array Field}(ht:Tryz.prog.underlying t=some (.struct fs))(h:Value.okWide Tryz.prog W .any base t v):∃cs,v=.agg cs:=by
 simp only[Value.okWide,ht] at h
 obtain⟨cs,h1,_⟩:=h
 exact⟨cs,h1⟩
theorem Tf{W:World}{base n e:Nat}{t:TypeId}{v:Value}(ht:Tryz.prog.underlying t=some (.array n e))(h:Value.okWide Tryz.prog W .any base t v):∃cs,v=.agg cs:=by
 simp only[Value.okWide,ht] at h
 obtain⟨cs,h1,_⟩:=h
 exact⟨cs,h1⟩
theorem laidOut:laidOutB Tryz.prog=true:=by kernel_rfl
theorem Is{w w':World}{γ':Gh}(h:Qa (NT w) w γ' w'):RowKit.Below w.heap.size w w':=
 ⟨h.os,h.tape,h.output,h.size,λk hk=>(h.free k hk rfl).1⟩
section
variable {H:Type} {enc:TypeId×Value->H} {P:Program} {w:World} {base:Nat} {spare:zh} {held:Bool}
end
theorem OE{n:Int}(h:(Lit.int .u8 n).wf=true):0<=n/\n<=255:=by
 simp[Lit.wf,IntKind.min,IntKind.max,IntKind.signed,IntKind.bits] at h;omega
theorem Si{n:Int}(h:(Lit.int .u16 n).wf=true):0<=n/\n<=65535:=by
 simp[Lit.wf,IntKind.min,IntKind.max,IntKind.signed,IntKind.bits] at h;omega
end Go.Proofs.YtjdieimefebnfaaGreatDoor
namespace Go.Proofs.YtjdieimefebnfaaGreatDoor
open Go Go.EV
theorem u26:Tryz.prog.underlying 26=some (.struct (jT 26)):=by kernel_rfl
theorem Qw8:Tryz.prog.cellsOf 26=7:=by kernel_rfl
theorem u22:Tryz.prog.underlying 22=some (.array 2 5):=by kernel_rfl
theorem gW:Tryz.prog.cellsOf 22=2:=by kernel_rfl
theorem u5:Tryz.prog.underlying 5=some (.int .u8):=by kernel_rfl
theorem mB:Tryz.prog.cellsOf 5=1:=by kernel_rfl
theorem ln2{α:Type}{l:List α}(h:l.length=2):∃v0 v1,l=[v0,v1]:=by match l,h with|[v0,v1],_=>exact⟨v0,v1,rfl⟩
def c22(x:Xz):List V:=[.int .u8 x.a0,.int .u8 x.a1]
def Qq0(x:Xz):Prop:=(Lit.int .u8 x.a0).wf=true/\(Lit.int .u8 x.a1).wf=true
theorem Qz8:Rd 22 c22 Qq0:=λH enc W I1 cs x h=>by
 obtain⟨xs,m,rfl,-,hl,hn,hel⟩:=DataW.trod_array u22 h
 rw[gW] at hl
 obtain⟨v0,v1,rfl⟩:=ln2 hl
 obtain⟨a0,i0,k0⟩:=CB hel hn 0 (by omega) mB (C1 u5)
 obtain⟨a1,i1,k1⟩:=CB hel hn 1 (by omega) mB (C1 u5)
 exact⟨⟨a0,a1⟩,⟨i0,i1⟩,k0.append k1⟩
theorem u24:Tryz.prog.underlying 24=some (.array 2 23):=by kernel_rfl
theorem Qq4:Tryz.prog.cellsOf 24=2:=by kernel_rfl
theorem u23:Tryz.prog.underlying 23=some (.int .u16):=by kernel_rfl
theorem gH:Tryz.prog.cellsOf 23=1:=by kernel_rfl
def c24(x:AF):List V:=[.int .u16 x.a0,.int .u16 x.a1]
def Qht(x:AF):Prop:=(Lit.int .u16 x.a0).wf=true/\(Lit.int .u16 x.a1).wf=true
theorem Qkx:Rd 24 c24 Qht:=λH enc W I1 cs x h=>by
 obtain⟨xs,m,rfl,-,hl,hn,hel⟩:=DataW.trod_array u24 h
 rw[Qq4] at hl
 obtain⟨v0,v1,rfl⟩:=ln2 hl
 obtain⟨a0,i0,k0⟩:=CB hel hn 0 (by omega) gH (C1 u23)
 obtain⟨a1,i1,k1⟩:=CB hel hn 1 (by omega) gH (C1 u23)
 exact⟨⟨a0,a1⟩,⟨i0,i1⟩,k0.append k1⟩
theorem ln7{α:Type}{l:List α}(h:l.length=7):∃v0 v1 v2 v3 v4 v5 v6,l=[v0,v1,v2,v3,v4,v5,v6]:=by match l,h with|[v0,v1,v2,v3,v4,v5,v6],_=>exact⟨v0,v1,v2,v3,v4,v5,v6,rfl⟩
def c26(x:Zq):List V:=[.int .u8 x.fW.a0,.int .u8 x.fW.a1,.int .u16 x.fH.a0,.int .u16 x.fH.a1,.int .u16 x.gv,.int .u8 x.gr.a0,.int .u8 x.gr.a1]
def Qhc(x:Zq):Prop:=Qq0 x.fW/\Qht x.fH/\(Lit.int .u16 x.gv).wf=true/\Qq0 x.gr
theorem Qkd:Rd 26 c26 Qhc:=λH enc W I1 cs x h=>by
 obtain⟨xs,m,rfl,-,hl,hn,hel⟩:=DataW.trod_struct u26 h
 rw[Qw8] at hl
 obtain⟨v0,v1,v2,v3,v4,v5,v6,rfl⟩:=ln7 hl
 obtain⟨a0,i0,k0⟩:=Nk hel hn 0 (t:=22) (o:=0) (by kernel_rfl) gW Qz8
 obtain⟨a1,i1,k1⟩:=Nk hel hn 1 (t:=24) (o:=2) (by kernel_rfl) Qq4 Qkx
 obtain⟨a2,i2,k2⟩:=Nk hel hn 2 (t:=23) (o:=4) (by kernel_rfl) gH (C1 u23)
 obtain⟨a3,i3,k3⟩:=Nk hel hn 3 (t:=22) (o:=5) (by kernel_rfl) gW Qz8
 exact⟨⟨a0,a1,a2,a3⟩,⟨i0,i1,i2,i3⟩,k0.append (k1.append (k2.append k3))⟩
theorem u28:Tryz.prog.underlying 28=some (.struct (jT 28)):=by kernel_rfl
theorem Qw7:Tryz.prog.cellsOf 28=2:=by kernel_rfl
def c28(x:Zx):List V:=[.int .u8 x.gt,.int .u8 x.gx]
def Qhb(x:Zx):Prop:=(Lit.int .u8 x.gt).wf=true/\(Lit.int .u8 x.gx).wf=true
theorem Qke:Rd 28 c28 Qhb:=λH enc W I1 cs x h=>by
 obtain⟨xs,m,rfl,-,hl,hn,hel⟩:=DataW.trod_struct u28 h
 rw[Qw7] at hl
 obtain⟨v0,v1,rfl⟩:=ln2 hl
 obtain⟨a0,i0,k0⟩:=Nk hel hn 0 (t:=5) (o:=0) (by kernel_rfl) mB (C1 u5)
 obtain⟨a1,i1,k1⟩:=Nk hel hn 1 (t:=5) (o:=1) (by kernel_rfl) mB (C1 u5)
 exact⟨⟨a0,a1⟩,⟨i0,i1⟩,k0.append k1⟩
theorem u30:Tryz.prog.underlying 30=some (.struct (jT 30)):=by kernel_rfl
theorem Qw6:Tryz.prog.cellsOf 30=4:=by kernel_rfl
theorem u3:Tryz.prog.underlying 3=some (.int .i64):=by kernel_rfl
theorem zc3:Tryz.prog.cellsOf 3=1:=by kernel_rfl
theorem u9:Tryz.prog.underlying 9=some .string:=by kernel_rfl
theorem zc9:Tryz.prog.cellsOf 9=1:=by kernel_rfl
theorem ln4{α:Type}{l:List α}(h:l.length=4):∃v0 v1 v2 v3,l=[v0,v1,v2,v3]:=by match l,h with|[v0,v1,v2,v3],_=>exact⟨v0,v1,v2,v3,rfl⟩
def c30(x:HC):List V:=[.int .u8 x.ga,.int .u8 x.gq,.int .i64 x.fN,.str x.fJ]
def Qd7(x:HC):Prop:=(Lit.int .u8 x.ga).wf=true/\(Lit.int .u8 x.gq).wf=true/\(Lit.int .i64 x.fN).wf=true/\True
theorem Qkm:Rd 30 c30 Qd7:=λH enc W I1 cs x h=>by
 obtain⟨xs,m,rfl,-,hl,hn,hel⟩:=DataW.trod_struct u30 h
 rw[Qw6] at hl
 obtain⟨v0,v1,v2,v3,rfl⟩:=ln4 hl
 obtain⟨a0,i0,k0⟩:=Nk hel hn 0 (t:=5) (o:=0) (by kernel_rfl) mB (C1 u5)
 obtain⟨a1,i1,k1⟩:=Nk hel hn 1 (t:=5) (o:=1) (by kernel_rfl) mB (C1 u5)
 obtain⟨a2,i2,k2⟩:=Nk hel hn 2 (t:=3) (o:=2) (by kernel_rfl) zc3 (C1 u3)
 obtain⟨a3,i3,k3⟩:=Nk hel hn 3 (t:=9) (o:=3) (by kernel_rfl) zc9 (rdStr u9)
 exact⟨⟨a0,a1,a2,a3⟩,⟨i0,i1,i2,i3⟩,k0.append (k1.append (k2.append k3))⟩
theorem u32:Tryz.prog.underlying 32=some (.struct (jT 32)):=by kernel_rfl
theorem Qw5:Tryz.prog.cellsOf 32=4:=by kernel_rfl
def c32(x:Za):List V:=[.int .u8 x.ga,.int .u8 x.fq,.int .u8 x.gq,.int .i64 x.fN]
def Qhs(x:Za):Prop:=(Lit.int .u8 x.ga).wf=true/\(Lit.int .u8 x.fq).wf=true/\(Lit.int .u8 x.gq).wf=true/\(Lit.int .i64 x.fN).wf=true
theorem Qkk:Rd 32 c32 Qhs:=λH enc W I1 cs x h=>by
 obtain⟨xs,m,rfl,-,hl,hn,hel⟩:=DataW.trod_struct u32 h
 rw[Qw5] at hl
 obtain⟨v0,v1,v2,v3,rfl⟩:=ln4 hl
 obtain⟨a0,i0,k0⟩:=Nk hel hn 0 (t:=5) (o:=0) (by kernel_rfl) mB (C1 u5)
 obtain⟨a1,i1,k1⟩:=Nk hel hn 1 (t:=5) (o:=1) (by kernel_rfl) mB (C1 u5)
 obtain⟨a2,i2,k2⟩:=Nk hel hn 2 (t:=5) (o:=2) (by kernel_rfl) mB (C1 u5)
 obtain⟨a3,i3,k3⟩:=Nk hel hn 3 (t:=3) (o:=3) (by kernel_rfl) zc3 (C1 u3)
 exact⟨⟨a0,a1,a2,a3⟩,⟨i0,i1,i2,i3⟩,k0.append (k1.append (k2.append k3))⟩
theorem u34:Tryz.prog.underlying 34=some (.struct (jT 34)):=by kernel_rfl
theorem Qw4:Tryz.prog.cellsOf 34=3:=by kernel_rfl
theorem ln3{α:Type}{l:List α}(h:l.length=3):∃v0 v1 v2,l=[v0,v1,v2]:=by match l,h with|[v0,v1,v2],_=>exact⟨v0,v1,v2,rfl⟩
def c34(x:Qq):List V:=[.int .i64 x.fp,.int .i64 x.fR,.str x.fe]
def Qd6(x:Qq):Prop:=(Lit.int .i64 x.fp).wf=true/\(Lit.int .i64 x.fR).wf=true/\True
theorem Qkw:Rd 34 c34 Qd6:=λH enc W I1 cs x h=>by
 obtain⟨xs,m,rfl,-,hl,hn,hel⟩:=DataW.trod_struct u34 h
 rw[Qw4] at hl
 obtain⟨v0,v1,v2,rfl⟩:=ln3 hl
 obtain⟨a0,i0,k0⟩:=Nk hel hn 0 (t:=3) (o:=0) (by kernel_rfl) zc3 (C1 u3)
 obtain⟨a1,i1,k1⟩:=Nk hel hn 1 (t:=3) (o:=1) (by kernel_rfl) zc3 (C1 u3)
 obtain⟨a2,i2,k2⟩:=Nk hel hn 2 (t:=9) (o:=2) (by kernel_rfl) zc9 (rdStr u9)
 exact⟨⟨a0,a1,a2⟩,⟨i0,i1,i2⟩,k0.append (k1.append k2)⟩
theorem u35:Tryz.prog.underlying 35=some (.array 2 3):=by kernel_rfl
theorem Qw3:Tryz.prog.cellsOf 35=2:=by kernel_rfl
def c35(x:Dd):List V:=[.int .i64 x.a0,.int .i64 x.a1]
def Qd5(x:Dd):Prop:=(Lit.int .i64 x.a0).wf=true/\(Lit.int .i64 x.a1).wf=true
theorem Qkh:Rd 35 c35 Qd5:=λH enc W I1 cs x h=>by
 obtain⟨xs,m,rfl,-,hl,hn,hel⟩:=DataW.trod_array u35 h
 rw[Qw3] at hl
 obtain⟨v0,v1,rfl⟩:=ln2 hl
 obtain⟨a0,i0,k0⟩:=CB hel hn 0 (by omega) zc3 (C1 u3)
 obtain⟨a1,i1,k1⟩:=CB hel hn 1 (by omega) zc3 (C1 u3)
 exact⟨⟨a0,a1⟩,⟨i0,i1⟩,k0.append k1⟩
theorem u4:Tryz.prog.underlying 4=some .bool:=by kernel_rfl
theorem TB{d:Zq}(h:Qhc d):UJ d:=have a:=Si h.2.1.1;have b:=Si h.2.1.2;⟨⟨a.1,by omega⟩,⟨b.1,by omega⟩,(OE h.2.2.2.1).1,(OE h.q).1⟩
theorem Cl{p:Zx}(h:Qhb p):0<=p.gt/\p.gt < 256:=have k:=OE h.1;⟨k.1,by omega⟩
theorem Ta{c:Za}(h:Qhs c):0<=c.fq/\c.fq < 256:=have k:=OE h.2.1;⟨k.1,by omega⟩
end Go.Proofs.YtjdieimefebnfaaGreatDoor
