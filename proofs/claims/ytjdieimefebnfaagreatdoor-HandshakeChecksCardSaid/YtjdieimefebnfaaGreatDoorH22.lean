/- What the law's own handshake comes to: the three steps with keys. The law's own handshake goes as the chapter says: `works` is true. The laws of step ..; no conditions. -/
import Derived.Test.YtjdieimefebnfaaGreatDoorH21
import Derived.Test.YtjdieimefebnfaaGreatDoorH20
import Derived.Test.YtjdieimefebnfaaGreatDoorH18
import Derived.Test.YtjdieimefebnfaaGreatDoorH8
import Derived.Test.YtjdieimefebnfaaGreatDoorRows
import Derived.ChangeSame
import Derived.ChangeVars
import Derived.JoinedOf
import Derived.RowKit
import Derived.ProofKit
import Derived.LaidMore
import Derived.Lay
import Derived.OpenShut
import Derived.Carry
import Derived.Stop.Joined
import Derived.Lib.LaidU8
import Derived.ChangeArms
import Derived.DataReads
import Derived.SevenTiedAt
import Derived.Test.YtjdieimefebnfaaGreatDoorH15
import Derived.KernelRfl
set_option linter.unusedVariables false
set_option linter.unusedSimpArgs false
set_option maxRecDepth 100000
namespace Go.Proofs.YtjdieimefebnfaaGreatDoor
open Go Go.EV
theorem stepOf(s:Q2)(v:Q8)(h1:QB s=true)(h2:iF s v=true):D8 s v=MY { s with fj:=v.fj } (Er { s with fj:=v.fj } v):=by unfold D8;rw[h1,h2];rfl
theorem Qwr:LC (Uy++WQ |> λ_=>gX++gD) (Uy++WQ) aO=Jn:=by
 unfold LC
 rw[J2 wf5,J2 wf6]
theorem Qqw:Ah gX gD Uy WQ=Jn:=Qwr
theorem oA:R5 Jn EY (EA++K4)=N2 wK2 wH1:=by
 unfold R5 LC
 rw[J2 wf7,J2 wf8,J2 Qwg]
theorem oX:R5 Jn Dx Xw=Jg:=by
 unfold R5 LC
 rw[J2 wf7,J2 wf9,J2 Qwl,J2 Qwo]
theorem wNz:¬(gX=US\/gD=US):=of_decide_eq_false Qwd
theorem Qq7:(Za K4).fJ=K4.extract 23 55:=J2 (by kernel_rfl)
theorem Qq6:(Za A7).fJ=A7.extract 23 55:=J2 (by kernel_rfl)
theorem Qws:I1 mU Ym=.inl (mJ,[⟨4,2,B4⟩]):=by
 have eM:DH mU Ym=Jn:=by
  unfold DH
  rw[J2 Qqj,J2 Qqy,J2 Qqz,Qq6]
  show Ah (xS KF _) (xS Ye _) Uy WQ=_
  rw[J2 wf1,J2 wf2]
  exact Qqw
 have eT:MO mU Ym=EA:=J2 Qwi
 have eB:YY mU Ym=B4:=by
  unfold YY
  rw[eM,eT]
  show R5 Jn EY (EA++K4)++K4=_
  rw[oA]
  exact J2 Qwf
 unfold I1
 rw[eM,eT,eB,J2 Qqj,J2 Qqy,J2 Qqz,Qww,Qq6,J2 Qqh]
 show (if ¬64 < Ym.size then _ else if true=false then _ else if UR (Za A7) [MB] 1000≠0 then _ else if xS KF (A7.extract 23 55)=US\/xS Ye FM=US then _ else _)=_
 rw[Qwa,J2 wf1,J2 wf2,if_neg (by decide),if_neg (by decide),if_neg (by decide),if_neg wNz]
 rfl
theorem Qwn:G2 mY B4=.inl (wS3,[⟨5,2,Jg⟩]):=by
 have eM:WH mY B4=Jn:=by
  unfold WH
  rw[J2 Qqq,Qq7]
  show Ah (xS Hz FW) (xS AS _) Uy WQ=_
  rw[J2 wf3,J2 wf4]
  exact Qqw
 have eT:WU mY B4=Xw:=J2 Qqh
 have eC:Jv mY B4=Jg:=by
  unfold Jv
  rw[eM,eT]
  exact oX
 unfold G2
 rw[eM,eT,eC,J2 Qqq,Qwh,Qq7,J2 Qqu]
 show (if ¬32 < B4.size then _ else if true=false then _ else if UR (Za K4) [Dd] 1000≠0 then _ else if xS Hz FW=US\/xS AS (K4.extract 23 55)=US then _ else if B4.extract 0 32≠R5 Jn EY (EA++K4) then _ else _)=_
 rw[Qwx,J2 wf3,J2 wf4,if_neg (by decide),if_neg (by decide),if_neg (by decide),if_neg wNz,if_neg (by rw[oA];exact λh=>h (J2 Qwu).symm)]
 rfl
theorem Qwp:UL mJ Jg=.inl (wC4,[]):=by
 unfold UL
 rw[if_neg (by decide),if_neg (λh=>h oX.symm)]
 show Sum.inl (({ mJ with fE:=Xw++WT 5 Jg,fw:=6,fo:=[],fA:=nY }:Q2),([]:List Z1))=_
 rw[J2 Qqu]
 rfl
theorem wk6:D8 mU ⟨2,1000,bs [120],⟨3,1,Ym⟩⟩=(mJ,[⟨4,2,B4⟩],0):=by
 rw[stepOf _ _ Qwe (by kernel_rfl)]
 have e:Er { mU with fj:=1000 } ⟨2,1000,bs [120],⟨3,1,Ym⟩⟩=I1 mU Ym:=by
  unfold Er
  rw[if_neg (by decide),if_pos (by decide)]
  unfold H4
  rw[if_neg (by decide),if_pos (by decide)]
  rfl
 show MY _ (Er { mU with fj:=1000 } _)=_
 rw[e,Qws]
 rfl
theorem wk7:D8 mY ⟨2,1000,bs [102,97,114],⟨4,2,B4⟩⟩=(wS3,[⟨5,2,Jg⟩],0):=by
 rw[stepOf _ _ Qwm (by kernel_rfl)]
 have e:Er { mY with fj:=1000 } ⟨2,1000,bs [102,97,114],⟨4,2,B4⟩⟩=G2 mY B4:=by
  unfold Er
  rw[if_neg (by decide),if_pos (by decide)]
  unfold H4
  rw[if_neg (by decide),if_neg (by decide),if_neg (by decide),if_neg (by decide),if_pos (by decide)]
  rfl
 show MY _ (Er { mY with fj:=1000 } _)=_
 rw[e,Qwn]
 rfl
theorem wk8:D8 mJ ⟨2,1000,zd,⟨5,2,Jg⟩⟩=(wC4,[],0):=by
 rw[stepOf _ _ Qwk (by kernel_rfl)]
 have e:Er { mJ with fj:=1000 } ⟨2,1000,zd,⟨5,2,Jg⟩⟩=UL mJ Jg:=by
  unfold Er
  rw[if_neg (by decide),if_pos (by decide)]
  unfold H4
  rw[if_neg (by decide),if_neg (by decide),if_pos (by decide)]
  rfl
 show MY _ (Er { mJ with fj:=1000 } _)=_
 rw[e,Qwp]
 rfl
theorem Vl{α:Type}{s:EV.Spec Tryz.prog GG α}{g:TT α}{Q:α->Prop}(h:s.o=g.run)(k:Ok g Q):Qq s Q:=let ⟨r,h1,h2⟩:=k;⟨r,h.trans h1,h2⟩
theorem qX(a:Int)(b c d:za)(e:List za):(Gu a b c d e).o=(Bi a b c d e).run:=rfl
theorem Pl(b:Z6)(hv:O2 b=true):Qq (s47 b) (λr=>r=(I3 (Hm (X4 b)),0)):=by
 unfold s47
 refine Qq.fn ?_
 unfold g47
 exact Ok.c (Ml b) λr hr=>Ok.f (by rw[hr,hv];rfl) (Ok.c (GM b hv) λr hr=>Ok.d (by rw[hr]))
theorem newEq{side now:Int}{sec bdg fr rn ck k:za}{ps:List za}(h:QB (Dc side sec bdg fr rn ck ps now)=true)(h1:(Za bdg).fJ=k)(h2:xS sec YX=k):GX side sec bdg fr rn ck ps now=(Dc side sec bdg fr rn ck ps now,0):=by
 unfold GX
 rw[h,h1,h2,zO rfl];rfl
def Qzh(s:Q2)(p:za):Bool×za×Int×Int×Int×za×za×za×za×za×(List za)×Int×za×za×za×za×za×(List Z1)×Int×Int×Int×Int:=
 (true,p,s.fB,s.fw,s.fj,s.fV,s.fe,s.fQ,s.fq,s.fT,s.fp,s.fm,s.fE,s.fh.fq,s.fh.fP,s.fh.fe,s.fI,s.fo,s.fA.fF,s.fA.fX,s.fA.fM,s.gc)
theorem vCb:O2 ⟨bs [99],K4.extract 23 55,0,100000,7⟩=true:=wv8
theorem vSb:O2 ⟨bs [115],A7.extract 23 55,0,100000,7⟩=true:=wv9
theorem eCb:X4 ⟨bs [99],K4.extract 23 55,0,100000,7⟩=K4:=J2 wv6
theorem eSb:X4 ⟨bs [115],A7.extract 23 55,0,100000,7⟩=A7:=J2 wv7
theorem sC:Qq (s80 1 (bs [99]) (bs [7]) zd []) (λr=>r=(wA,Dd,true)):=by
 unfold s80
 refine Qq.fn ?_
 unfold g80
 refine Ok.c (Qq.o wu1) λr hr=>Ok.c (JK r) λr2 hr2=>?_
 subst hr
 rw[if_pos (by decide),J2 wv4] at hr2
 subst hr2
 refine Ok.c (Lt ⟨bs [99],K4.extract 23 55,0,100000,7⟩) λr hr=>Ok.c (Pl ⟨bs [99],K4.extract 23 55,0,100000,7⟩ vCb) λr2 hr2=>?_
 rw[if_pos vCb,eCb] at hr
 rw[eCb,J2 Qq9] at hr2
 subst hr hr2
 refine Ok.k (by decide) (Ok.c (Qq.o wu4) λr hr=>Ok.k (by decide) (Ok.c (Qq.o wu5) λr2 hr2=>?_))
 subst hr hr2
 refine Ok.c (XB 1 Ye K4 KF Uy zd [] 1000 (Ya (s:=wA) wv1).sm) λr hr=>?_
 rw[newEq (k:=K4.extract 23 55) wv1 (J2 Qq8) (J2 wv4)] at hr
 subst hr
 exact Ok.t rfl (Ok.t rfl (Ok.t rfl (Ok.d rfl)))
theorem sS:Qq (Gu 2 (bs [115]) (bs [5]) FH [Dd]) (λr=>r=Qzh wS MB):=by
 refine Vl (qX _ _ _ _ _) ?_
 unfold Bi
 refine Ok.c (Qq.o wu2) λr hr=>Ok.c (JK r) λr2 hr2=>?_
 subst hr
 rw[if_pos (by decide),J2 wv5] at hr2
 subst hr2
 refine Ok.c (Lt ⟨bs [115],A7.extract 23 55,0,100000,7⟩) λr hr=>Ok.c (Pl ⟨bs [115],A7.extract 23 55,0,100000,7⟩ vSb) λr2 hr2=>?_
 rw[if_pos vSb,eSb] at hr
 rw[eSb,J2 Qw8] at hr2
 subst hr hr2
 refine Ok.g (Ok.k (by decide) (Ok.c (Qq.o wu6) λr hr=>Ok.k (by decide) (Ok.c (Qq.o wu7) λr2 hr2=>?_)))
 subst hr hr2
 refine Ok.c (XB 2 Hz A7 AS WQ FH [Dd] 1000 (Ya (s:=wS) wv2).sm) λr hr=>?_
 rw[newEq (k:=A7.extract 23 55) wv2 (J2 Qw7) (J2 wv5)] at hr
 subst hr
 exact Ok.t rfl (Ok.t rfl (Ok.t rfl (Ok.d rfl)))
theorem sB:Qq (Gu 1 (bs [99]) (bs [7]) zd [MB]) (λr=>r=Qzh wC Dd):=by
 refine Vl (qX _ _ _ _ _) ?_
 unfold Bi
 refine Ok.c (Qq.o wu1) λr hr=>Ok.c (JK r) λr2 hr2=>?_
 subst hr
 rw[if_pos (by decide),J2 wv4] at hr2
 subst hr2
 refine Ok.c (Lt ⟨bs [99],K4.extract 23 55,0,100000,7⟩) λr hr=>Ok.c (Pl ⟨bs [99],K4.extract 23 55,0,100000,7⟩ vCb) λr2 hr2=>?_
 rw[if_pos vCb,eCb] at hr
 rw[eCb,J2 Qq9] at hr2
 subst hr hr2
 refine Ok.g (Ok.k (by decide) (Ok.c (Qq.o wu4) λr hr=>Ok.k (by decide) (Ok.c (Qq.o wu5) λr2 hr2=>?_)))
 subst hr hr2
 refine Ok.c (XB 1 Ye K4 KF Uy zd [MB] 1000 (Ya (s:=wC) wv3).sm) λr hr=>?_
 rw[newEq (k:=K4.extract 23 55) wv3 (J2 Qq8) (J2 wv4)] at hr
 subst hr
 exact Ok.t rfl (Ok.t rfl (Ok.t rfl (Ok.d rfl)))
theorem bK:Qq s39 (λr=>r=(wC,wS,true)):=by
 have key:Ok g39 (λr=>r=(wC,wS,true)):=by
  unfold g39
  refine Ok.c (Qq.o wu3) λr hr=>Ok.c sC λr2 hr2=>?_
  subst hr hr2
  refine Ok.c sS λr hr=>?_
  subst hr
  refine Ok.c sB λr hr=>?_
  subst hr
  exact Ok.t rfl (Ok.t rfl (Ok.d rfl))
 unfold s39
 exact Qq.fn (k:=k39) key
theorem Ed{s s2:Q2}{f:za}{n m:Z1}(hs:Sm s)(h:D8 s ⟨2,s.fj,f,n⟩=(s2,[m],0)):Qq (lU s f n) (λr=>r=(s2,m,true)):=by
 unfold lU
 refine Qq.fn ?_
 unfold g40
 refine Ok.c (YE s _ hs) λr hr=>?_
 rw[h] at hr
 subst hr
 exact Ok.n (R:=λc=>c=false) (Ok.f rfl (Ok.d rfl)) λc hc=>Ok.f hc (Ok.r rfl rfl (Ok.d rfl))
theorem Vn{s s2:Q2}{v:Q8}{l:List Z1}{e:Int}(h:D8 s v=(s2,l,e)):Sm s2:=by
 have z:=(DD s v).1
 rw[h] at z
 exact z.sm (by decide)
theorem xY:Qq s14 (λr=>r=true):=by
 have q1:D8 wC ⟨1,1000,zd,⟨0,0,zd⟩⟩=_:=Jk wk1
 have q2:=Jk wk2
 have q3:=Jk wk3
 have q4:=Jk wk4
 have q5:=Jk wk5
 have q9:D8 mH ⟨3,1399,zd,⟨0,0,zd⟩⟩=_:=Jk wk9
 have q10:D8 mH ⟨3,1400,zd,⟨0,0,zd⟩⟩=_:=Jk Qwj
 have q11:D8 wS ⟨1,1000,zd,⟨0,0,zd⟩⟩=_:=Jk Qwy
 have q12:=Jk Qwz
 have q13:=Jk Qwq
 have mC:=(Ya wv3).sm
 have mS:=(Ya wv2).sm
 have mC1:=Vn q1
 have mS1:=Vn q2
 have mC2:=Vn q3
 have mS2:=Vn q4
 have mC3:=Vn wk6
 have key:Ok g14 (λr=>r=true):=by
  unfold g14
  refine Ok.c bK λr hr=>?_
  subst hr
  refine Ok.f rfl (Ok.c (YE wC _ mC) λr hr=>?_)
  rw[q1] at hr
  subst hr
  refine Ok.n (R:=λc=>c=false) (Ok.f rfl (Ok.f rfl (Ok.f rfl (Ok.r rfl rfl (Ok.f rfl (Ok.r rfl rfl (Ok.f rfl (Ok.r rfl rfl (Ok.d rfl))))))))) λc hc=>Ok.f hc (Ok.r rfl rfl ?_)
  refine Ok.c (Ed mS q2) λr hr=>?_
  subst hr
  refine Ok.c (Ed mC1 q3) λr hr=>?_
  subst hr
  refine Ok.c (Ed mS1 q4) λr hr=>?_
  subst hr
  refine Ok.c (Ed mS1 q5) λr hr=>?_
  subst hr
  refine Ok.c (Ed mC2 wk6) λr hr=>?_
  subst hr
  refine Ok.c (Ed mS2 wk7) λr hr=>?_
  subst hr
  refine Ok.n (R:=λc=>c=false) (Ok.f rfl (Ok.f rfl (Ok.f rfl (Ok.f rfl (Ok.f rfl (Ok.d rfl)))))) λc hc=>Ok.f hc ?_
  refine Ok.c (YE mJ _ mC3) λr hr=>?_
  rw[wk8] at hr
  subst hr
  refine Ok.n (R:=λc=>c=true) ?_ λc1 h1=>Ok.n (R:=λc=>c=true) ?_ λc2 h2=>?_
  ·iterate 18 refine Ok.t rfl ?_
   exact Ok.d rfl
  ·exact Ok.t rfl (Ok.t rfl (Ok.t rfl (Ok.t (by decide) (Ok.t (by decide) (Ok.t (by decide) (Ok.t (by decide) (Ok.d (by decide))))))))
  refine Ok.c (YE mH _ mC1) λr hr=>?_
  rw[q9] at hr
  subst hr
  refine Ok.c (YE mH _ mC1) λr hr=>?_
  rw[q10] at hr
  subst hr
  refine Ok.n (R:=λc=>c=true) ?_ λc3 h3=>?_
  ·exact Ok.t rfl (Ok.t rfl (Ok.t rfl (Ok.t rfl (Ok.t rfl (Ok.r rfl rfl (Ok.r rfl rfl (Ok.t (by decide) (Ok.d rfl))))))))
  refine Ok.c (YE wS _ mS) λr hr=>?_
  rw[q11] at hr
  subst hr
  refine Ok.c (YE wS _ mS) λr hr=>?_
  rw[q12] at hr
  subst hr
  refine Ok.k (by decide) (Ok.c (YE mH _ mC1) λr hr=>?_)
  rw[q13] at hr
  subst hr
  exact Ok.n (R:=λc=>c=true) (Ok.t h1 (Ok.t h2 (Ok.t h3 (Ok.t rfl (Ok.t rfl (Ok.d rfl)))))) λc hc=>Ok.d hc
 unfold s14
 exact Qq.fn (k:=k14) key
theorem yW(d:Zy)(p:Zp)(x y:HB)(side now:Int)(hu:UZ d)(hs:0<=p.gr/\p.gr < 256):Qq (s7 d p x y side now) (λr=>r=true):=CQ xY d p x y side now hu hs
end Go.Proofs.YtjdieimefebnfaaGreatDoor
namespace Go.Proofs.YtjdieimefebnfaaGreatDoor
open Go Go.EV Go.ChangeShapes
theorem own:ownKnob Tryz.prog.godebug=none:=by kernel_rfl
abbrev Mp:List (String×DataW Unit):=[("unicode/utf8.acceptRanges",Rows.laid_unicode_utf8_acceptRanges),("unicode/utf8.first",Rows.laid_unicode_utf8_first)]
theorem eH(os:Os):(World.laidAll Tryz.prog os Mp).Shaped Tryz.prog:=World.shaped_of_ZipB (by kernel_rfl) (by kernel_rfl)
theorem jW(os:Os)(args:Array Value):laidMetH Tryz.prog Mp ((World.laidAll Tryz.prog os Mp).forCall (λ_ _=>0) ⟨#[],args,[]⟩).memory:=by
 rw[MakeChecks.laidMetH_plain _ _ _ (by kernel_rfl)]
 exact laidMet_laidAll _ (by kernel_rfl) (by kernel_rfl)
def Nz(w:World):Gh:={ loc:=λ_=>none,own:=λ_=>none,Qr:=λB=>match w.heap[B]? with|some (.cells cs _ _)=>cs.size|_=>0 }
theorem cN{w:World}(_h:laidMetH Tryz.prog Mp w):UJ GG (Nz w) w:=λg cells hg=>by
 unfold GG at hg
 cases hg
theorem Dv{w w':World}{γ':Gh}(h:Qe (Nz w) w γ' w')(may:MemPlace->Prop):w.keptBut w' may:=by
 refine⟨h.os,h.output,λi hi=>?_⟩
 have:=(h.free i hi rfl).1
 rw[this]
 cases w.heap[i]? with
 | none=>trivial
 | some x=>
  cases x with
  | cells c t fr=>exact⟨rfl,rfl,rfl,λ_ _=>rfl⟩
  | map es clock=>exact .inr ⟨rfl,rfl⟩
  | _=>rfl
theorem FI{H:Type}{enc:TypeId×Value->H}{P:Program}{w:World}{base:Nat}{spare:zh}{held:Bool}{t t' t'' t3 t4 t5:TypeId}{args:Array Value}{ds:List (DataW H)}{ps:List MemPlace}(h:DataW.TrodAll enc P w base spare held [t,t',t'',t3,t4,t5] args.toList ds ps) :
  ∃v v' v'' v3 v4 v5 d d' d'' d3 d4 d5 p p' p'' p3 p4 p5,args=#[v,v',v'',v3,v4,v5]/\ds=[d,d',d'',d3,d4,d5]/\ps=p++(p'++(p''++(p3++(p4++p5))))/\DataW.Trod enc P w base spare held t v d p/\DataW.Trod enc P w base spare held t' v' d' p'/\DataW.Trod enc P w base spare held t'' v'' d'' p''/\
   DataW.Trod enc P w base spare held t3 v3 d3 p3/\DataW.Trod enc P w base spare held t4 v4 d4 p4/\DataW.Trod enc P w base spare held t5 v5 d5 p5:=by
 obtain⟨v,vs,d,ds',p,q,hargs,rfl,rfl,hd,hrest⟩:=ChangeShapes.trodAll_cons h
 obtain⟨v',vs',d',ds'',p',q',rfl,rfl,rfl,hd',hrest'⟩:=ChangeShapes.trodAll_cons hrest
 obtain⟨v'',vs'',d'',ds''',p'',q'',rfl,rfl,rfl,hd'',hrest''⟩:=ChangeShapes.trodAll_cons hrest'
 obtain⟨v3,vs3,d3,ds3,p3,q3,rfl,rfl,rfl,hd3,hrest3⟩:=ChangeShapes.trodAll_cons hrest''
 obtain⟨v4,vs4,d4,ds4,p4,q4,rfl,rfl,rfl,hd4,hrest4⟩:=ChangeShapes.trodAll_cons hrest3
 obtain⟨v5,vs5,d5,ds5,p5,q5,rfl,rfl,rfl,hd5,hrest5⟩:=ChangeShapes.trodAll_cons hrest4
 obtain⟨rfl,rfl,rfl⟩:=ChangeShapes.trodAll_nil hrest5
 exact⟨v,v',v'',v3,v4,v5,d,d',d'',d3,d4,d5,p,p',p'',p3,p4,p5,Array.toList_inj.1 hargs,rfl,by simp,hd,hd',hd'',hd3,hd4,hd5⟩
theorem FO{H:Type}{enc:TypeId×Value->H}{P:Program}{w:World}{base:Nat}{spare:zh}{held:Bool}{t t' t'' t3 t4 t5:TypeId}{v v' v'' v3 v4 v5:Value}{d d' d'' d3 d4 d5:DataW H}{p p' p'' p3 p4 p5:List MemPlace}(h:DataW.Trod enc P w base spare held t v d p)(h':DataW.Trod enc P w base spare held t' v' d' p')
  (h'':DataW.Trod enc P w base spare held t'' v'' d'' p'') (h3:DataW.Trod enc P w base spare held t3 v3 d3 p3) (h4:DataW.Trod enc P w base spare held t4 v4 d4 p4) (h5:DataW.Trod enc P w base spare held t5 v5 d5 p5) :
  DataW.TrodAll enc P w base spare held [t,t',t'',t3,t4,t5] [v,v',v'',v3,v4,v5] [d,d',d'',d3,d4,d5] (p++(p'++(p''++(p3++(p4++p5))))):=⟨p,_,h,trodAll_cons_mk h' (trodAll_cons_mk h'' (ChangeShapes.trodAll_mk3 h3 h4 h5)),rfl⟩
def UH(W:World)(l:List V)(cs:List Value):Prop:=cs.length=l.length/\∀(i:Nat) (c:V) (v:Value),l[i]?=some c->cs[i]?=some v->K2 (Nz W).Qr W c v
theorem UH.one{W:World}{c:V}{v:Value}(h:K2 (Nz W).Qr W c v):UH W [c] [v]:=⟨rfl,λi c' v' hc hv=>by
 cases i with
 | zero=>simp at hc hv;subst hc;subst hv;exact h
 | succ i=>simp at hc⟩
theorem UH.append{W:World}{l m:List V}{cs ds:List Value}(h:UH W l cs)(k:UH W m ds):UH W (l++m) (cs++ds):=
  ⟨by simp[h.1,k.1],λi c v hc hv=>by
    by_cases hi:i < l.length
    · rw[wg hi] at hc
      rw[wg (by rw[h.1];exact hi)] at hv
      exact h.2 i c v hc hv
    · rw[wl (by omega)] at hc
      rw[wl (by rw[h.1];omega),h.1] at hv
      exact k.2 _ c v hc hv⟩
def Rd(t:TypeId){α:Type}(c:α->List V)(I:α->Prop):Prop:=
 ∀(H:Type) (enc:TypeId×Value->H) (W:World) (I5:Nat) (cs:List Value) (x:DataW H×List MemPlace),DataW.trod enc Tryz.prog W 0 (λ_=>true) true I5 t cs=some x->∃a:α,I a/\UH W (c a) cs
theorem UE{t:TypeId}{k:IntKind}(ht:Tryz.prog.underlying t=some (.int k)):Rd t (λn:Int=>[.int k n]) (λn=>(Lit.int k n).wf=true):=λH enc W I5 cs x h=>by
 obtain⟨n,rfl,_,hw⟩:=DataW.trod_int ht h
 exact⟨n,hw,.one (.int k n)⟩
theorem rdStr{t:TypeId}(ht:Tryz.prog.underlying t=some .string):Rd t (λs:za=>[.str s]) (λ_=>True):=λH enc W I5 cs x h=>by
 cases I5 with
 | zero=>simp[DataW.trod] at h
 | succ n=>
  unfold DataW.trod at h
  rw[ht] at h
  split at h<;>simp_all
  exact⟨_,.one (.str _)⟩
theorem mA{H:Type}{enc:TypeId×Value->H}{W:World}{n:Nat}{fs:Array Field}{cs:List Value}{xs:List (DataW H×List MemPlace)}{t o z:Nat}{α:Type}{c:α->List V}{I:α->Prop}
  (hel:∀(i:Nat) (f:Field),fs[i]?=some f->DataW.trod enc Tryz.prog W 0 (λ_=>true) true n f.type ((cs.drop f.offset).take (Tryz.prog.cellsOf f.type))=xs[i]?) (hn:xs.length=fs.size) (i:Nat)
  (hf:(fs[i]?).map (λf=>(f.type,f.offset))=some (t,o)) (hz:Tryz.prog.cellsOf t=z) (r:Rd t c I):∃a:α,I a/\UH W (c a) ((cs.drop o).take z):=by
 obtain⟨f,h1,h2⟩:=zC.1 hf
 simp only[zI] at h2
 obtain⟨rfl,rfl⟩:=h2
 have hi:i < xs.length:=by rw[hn];exact(wq.1 h1).1
 have:=hel i f h1
 rw[wc hi,hz] at this
 exact r H enc W n _ _ this
theorem iD{H:Type}{enc:TypeId×Value->H}{W:World}{n m:Nat}{cs:List Value}{xs:List (DataW H×List MemPlace)}{t z:Nat}{α:Type}{c:α->List V}{I:α->Prop}
  (hel:∀(i:Nat),i < m->DataW.trod enc Tryz.prog W 0 (λ_=>true) true n t ((cs.drop (i * Tryz.prog.cellsOf t)).take (Tryz.prog.cellsOf t))=xs[i]?) (hn:xs.length=m) (i:Nat) (hi:i < m)
  (hz:Tryz.prog.cellsOf t=z) (r:Rd t c I):∃a:α,I a/\UH W (c a) ((cs.drop (i * z)).take z):=by
 have:=hel i hi
 rw[wc (by omega),hz] at this
 exact r H enc W n _ _ this
noncomputable def tV(t:TypeId):Array Field:=match Tryz.prog.underlying t with|some (.struct f)=>f|_=>#[]
theorem Mh{H:Type}{enc:TypeId×Value->H}{W:World}{t:TypeId}{α:Type}{c:α->List V}{I:α->Prop}(r:Rd t c I){v:Value}{d:DataW H}{p:List MemPlace}(hv:∃cs,v=.agg cs)
  (h:DataW.Trod enc Tryz.prog W 0 (λ_=>true) true t v d p):∃a:α,I a/\Qj (Nz W) W (Qm []) Qw (.agg (c a)) v:=by
 obtain⟨cs,rfl⟩:=hv
 obtain⟨I5,hf⟩:=h
 obtain⟨a,hi,hc⟩:=r H enc W I5 _ _ hf
 refine⟨a,hi,?_⟩
 have:=Qj.agg (γ:=Nz W) (w:=W) (bs:=Qm []) (u:=Qw) (c a) cs.toList hc.1 (λi x y hx hy=>.data (hc.2 i x y hx hy))
 simpa using this
theorem UQ{W:World}{base:Nat}{t:TypeId}{v:Value}{fs:Array Field}(ht:Tryz.prog.underlying t=some (.struct fs))(h:Value.okWide Tryz.prog W .any base t v):∃cs,v=.agg cs:=by
 simp only[Value.okWide,ht] at h
 obtain⟨cs,h1,_⟩:=h
 exact⟨cs,h1⟩
theorem laidOut:laidOutB Tryz.prog=true:=by kernel_rfl
theorem Is{w w':World}{γ':Gh}(h:Qe (Nz w) w γ' w'):RowKit.Below w.heap.size w w':=
 ⟨h.os,h.tape,h.output,h.size,λk hk=>(h.free k hk rfl).1⟩
theorem Gn{H:Type}{enc:TypeId×Value->H}{W:World}{t:TypeId}{α:Type}{c:α->List V}{I:α->Prop}(r:Rd t c I){v:Value}{d:DataW H}{p:List MemPlace}(hv:v.cells=#[v])
  (h:DataW.Trod enc Tryz.prog W 0 (λ_=>true) true t v d p):∃a:α,I a/\∀x,c a=[x]->Qj (Nz W) W (Qm []) Qw x v:=by
 obtain⟨I5,hf⟩:=h
 rw[hv] at hf
 obtain⟨a,hi,hc⟩:=r H enc W I5 _ _ hf
 refine⟨a,hi,λx hx=>?_⟩
 rw[hx] at hc
 exact .data (hc.2 0 x v rfl rfl)
theorem Bd{W:World}{base:Nat}{t:TypeId}{k:IntKind}{v:Value}(ht:Tryz.prog.underlying t=some (.int k))(h:Value.okWide Tryz.prog W .any base t v):v.cells=#[v]:=by
 obtain⟨n,rfl⟩:=WideShapes.okWide_int ht h
 rfl
section
variable {H:Type} {enc:TypeId×Value->H} {P:Program} {w:World} {base:Nat} {spare:zh} {held:Bool}
end
theorem Rm{n:Int}(h:(Lit.int .u8 n).wf=true):0<=n/\n<=255:=by
 simp[Lit.wf,IntKind.min,IntKind.max,IntKind.signed,IntKind.bits] at h;omega
theorem Si{n:Int}(h:(Lit.int .u16 n).wf=true):0<=n/\n<=65535:=by
 simp[Lit.wf,IntKind.min,IntKind.max,IntKind.signed,IntKind.bits] at h;omega
end Go.Proofs.YtjdieimefebnfaaGreatDoor
namespace Go.Proofs.YtjdieimefebnfaaGreatDoor
open Go Go.EV
theorem u26:Tryz.prog.underlying 26=some (.struct (tV 26)):=by kernel_rfl
theorem Qw6:Tryz.prog.cellsOf 26=7:=by kernel_rfl
theorem u22:Tryz.prog.underlying 22=some (.array 2 5):=by kernel_rfl
theorem gW:Tryz.prog.cellsOf 22=2:=by kernel_rfl
theorem u5:Tryz.prog.underlying 5=some (.int .u8):=by kernel_rfl
theorem zc5:Tryz.prog.cellsOf 5=1:=by kernel_rfl
theorem ln2{α:Type}{l:List α}(h:l.length=2):∃v0 v1,l=[v0,v1]:=by match l,h with|[v0,v1],_=>exact⟨v0,v1,rfl⟩
def c22(x:Xz):List V:=[.int .u8 x.a0,.int .u8 x.a1]
def Qq0(x:Xz):Prop:=(Lit.int .u8 x.a0).wf=true/\(Lit.int .u8 x.a1).wf=true
theorem Qz9:Rd 22 c22 Qq0:=λH enc W I5 cs x h=>by
 obtain⟨xs,m,rfl,-,hl,hn,hel⟩:=DataW.trod_array u22 h
 rw[gW] at hl
 obtain⟨v0,v1,rfl⟩:=ln2 hl
 obtain⟨a0,i0,k0⟩:=iD hel hn 0 (by omega) zc5 (UE u5)
 obtain⟨a1,i1,k1⟩:=iD hel hn 1 (by omega) zc5 (UE u5)
 exact⟨⟨a0,a1⟩,⟨i0,i1⟩,k0.append k1⟩
theorem u24:Tryz.prog.underlying 24=some (.array 2 23):=by kernel_rfl
theorem Qq4:Tryz.prog.cellsOf 24=2:=by kernel_rfl
theorem u23:Tryz.prog.underlying 23=some (.int .u16):=by kernel_rfl
theorem gH:Tryz.prog.cellsOf 23=1:=by kernel_rfl
def c24(x:AF):List V:=[.int .u16 x.a0,.int .u16 x.a1]
def Qhv(x:AF):Prop:=(Lit.int .u16 x.a0).wf=true/\(Lit.int .u16 x.a1).wf=true
theorem Qkh:Rd 24 c24 Qhv:=λH enc W I5 cs x h=>by
 obtain⟨xs,m,rfl,-,hl,hn,hel⟩:=DataW.trod_array u24 h
 rw[Qq4] at hl
 obtain⟨v0,v1,rfl⟩:=ln2 hl
 obtain⟨a0,i0,k0⟩:=iD hel hn 0 (by omega) gH (UE u23)
 obtain⟨a1,i1,k1⟩:=iD hel hn 1 (by omega) gH (UE u23)
 exact⟨⟨a0,a1⟩,⟨i0,i1⟩,k0.append k1⟩
theorem ln7{α:Type}{l:List α}(h:l.length=7):∃v0 v1 v2 v3 v4 v5 v6,l=[v0,v1,v2,v3,v4,v5,v6]:=by match l,h with|[v0,v1,v2,v3,v4,v5,v6],_=>exact⟨v0,v1,v2,v3,v4,v5,v6,rfl⟩
def c26(x:Zy):List V:=[.int .u8 x.fY.a0,.int .u8 x.fY.a1,.int .u16 x.fH.a0,.int .u16 x.fH.a1,.int .u16 x.gt,.int .u8 x.gq.a0,.int .u8 x.gq.a1]
def Qht(x:Zy):Prop:=Qq0 x.fY/\Qhv x.fH/\(Lit.int .u16 x.gt).wf=true/\Qq0 x.gq
theorem Qku:Rd 26 c26 Qht:=λH enc W I5 cs x h=>by
 obtain⟨xs,m,rfl,-,hl,hn,hel⟩:=DataW.trod_struct u26 h
 rw[Qw6] at hl
 obtain⟨v0,v1,v2,v3,v4,v5,v6,rfl⟩:=ln7 hl
 obtain⟨a0,i0,k0⟩:=mA hel hn 0 (t:=22) (o:=0) (by kernel_rfl) gW Qz9
 obtain⟨a1,i1,k1⟩:=mA hel hn 1 (t:=24) (o:=2) (by kernel_rfl) Qq4 Qkh
 obtain⟨a2,i2,k2⟩:=mA hel hn 2 (t:=23) (o:=4) (by kernel_rfl) gH (UE u23)
 obtain⟨a3,i3,k3⟩:=mA hel hn 3 (t:=22) (o:=5) (by kernel_rfl) gW Qz9
 exact⟨⟨a0,a1,a2,a3⟩,⟨i0,i1,i2,i3⟩,k0.append (k1.append (k2.append k3))⟩
theorem u28:Tryz.prog.underlying 28=some (.struct (tV 28)):=by kernel_rfl
theorem Qw5:Tryz.prog.cellsOf 28=2:=by kernel_rfl
def c28(x:Zp):List V:=[.int .u8 x.gr,.int .u8 x.gv]
def Qhc(x:Zp):Prop:=(Lit.int .u8 x.gr).wf=true/\(Lit.int .u8 x.gv).wf=true
theorem Qkj:Rd 28 c28 Qhc:=λH enc W I5 cs x h=>by
 obtain⟨xs,m,rfl,-,hl,hn,hel⟩:=DataW.trod_struct u28 h
 rw[Qw5] at hl
 obtain⟨v0,v1,rfl⟩:=ln2 hl
 obtain⟨a0,i0,k0⟩:=mA hel hn 0 (t:=5) (o:=0) (by kernel_rfl) zc5 (UE u5)
 obtain⟨a1,i1,k1⟩:=mA hel hn 1 (t:=5) (o:=1) (by kernel_rfl) zc5 (UE u5)
 exact⟨⟨a0,a1⟩,⟨i0,i1⟩,k0.append k1⟩
theorem u30:Tryz.prog.underlying 30=some (.struct (tV 30)):=by kernel_rfl
theorem Qw4:Tryz.prog.cellsOf 30=4:=by kernel_rfl
theorem u3:Tryz.prog.underlying 3=some (.int .i64):=by kernel_rfl
theorem zc3:Tryz.prog.cellsOf 3=1:=by kernel_rfl
theorem u9:Tryz.prog.underlying 9=some .string:=by kernel_rfl
theorem zc9:Tryz.prog.cellsOf 9=1:=by kernel_rfl
theorem ln4{α:Type}{l:List α}(h:l.length=4):∃v0 v1 v2 v3,l=[v0,v1,v2,v3]:=by match l,h with|[v0,v1,v2,v3],_=>exact⟨v0,v1,v2,v3,rfl⟩
def c30(x:HB):List V:=[.int .u8 x.gj,.int .u8 x.gx,.int .i64 x.fN,.str x.fL]
def Qev(x:HB):Prop:=(Lit.int .u8 x.gj).wf=true/\(Lit.int .u8 x.gx).wf=true/\(Lit.int .i64 x.fN).wf=true/\True
theorem Qz8:Rd 30 c30 Qev:=λH enc W I5 cs x h=>by
 obtain⟨xs,m,rfl,-,hl,hn,hel⟩:=DataW.trod_struct u30 h
 rw[Qw4] at hl
 obtain⟨v0,v1,v2,v3,rfl⟩:=ln4 hl
 obtain⟨a0,i0,k0⟩:=mA hel hn 0 (t:=5) (o:=0) (by kernel_rfl) zc5 (UE u5)
 obtain⟨a1,i1,k1⟩:=mA hel hn 1 (t:=5) (o:=1) (by kernel_rfl) zc5 (UE u5)
 obtain⟨a2,i2,k2⟩:=mA hel hn 2 (t:=3) (o:=2) (by kernel_rfl) zc3 (UE u3)
 obtain⟨a3,i3,k3⟩:=mA hel hn 3 (t:=9) (o:=3) (by kernel_rfl) zc9 (rdStr u9)
 exact⟨⟨a0,a1,a2,a3⟩,⟨i0,i1,i2,i3⟩,k0.append (k1.append (k2.append k3))⟩
theorem u4:Tryz.prog.underlying 4=some .bool:=by kernel_rfl
theorem TP{d:Zy}(h:Qht d):UZ d:=have a:=Si h.2.1.1;have b:=Si h.2.1.2;⟨⟨a.1,by omega⟩,⟨b.1,by omega⟩,(Rm h.2.2.2.1).1,(Rm h.q).1⟩
theorem Ca{p:Zp}(h:Qhc p):0<=p.gr/\p.gr < 256:=have k:=Rm h.1;⟨k.1,by omega⟩
end Go.Proofs.YtjdieimefebnfaaGreatDoor
