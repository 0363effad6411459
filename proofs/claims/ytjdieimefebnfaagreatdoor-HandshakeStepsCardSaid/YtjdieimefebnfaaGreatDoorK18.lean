/- The program's machine: its methods come to the model. The program's machine: what it is told. The program's machine: hello and proof. The program's S ..; no conditions. -/
import Derived.Test.YtjdieimefebnfaaGreatDoorK10
import Derived.Test.YtjdieimefebnfaaGreatDoorK17
import Derived.Test.YtjdieimefebnfaaGreatDoorK15
import Derived.Test.YtjdieimefebnfaaGreatDoorK14
import Derived.KernelRfl
set_option linter.unusedVariables false
set_option linter.unusedSimpArgs false
set_option maxRecDepth 100000
namespace Go.Proofs.YtjdieimefebnfaaGreatDoor
open Go Go.EV
theorem Bu(c:Bool)(e:Int):(X2 c e).o=some (bif c then .inl () else .inr ()):=by
 show (jL c e).run=_
 unfold jL
 simp only[T.run]
 cases c<;>rfl
theorem Ok.QS{P:Program}{G:ze}{ρ α β:Type}{Q:ρ->Prop}{a:Nat}{s:O5 P G α β}{Li Lo:List (Nat×Nat)}{k:α->T P G ρ}{k2:β->T P G ρ}{v:α}(hs:s.o=some (.inl v))(h:Ok (k v) Q):Ok (.Qo a s Li Lo k k2) Q:=Ok.Qo hs (by grind) (λr e=>by cases e)
theorem Ok.QA{P:Program}{G:ze}{ρ α β:Type}{Q:ρ->Prop}{a:Nat}{s:O5 P G α β}{Li Lo:List (Nat×Nat)}{k:α->T P G ρ}{k2:β->T P G ρ}{v:β}(hs:s.o=some (.inr v))(h:Ok (k2 v) Q):Ok (.Qo a s Li Lo k k2) Q:=Ok.Qo hs (λr e=>by cases e) (by grind)
theorem Ok.Zp{ρ:Type}{Q:ρ->Prop}{a:Nat}{c:Bool}{e:Int}{Li Lo:List (Nat×Nat)}{k k2:Unit->TT ρ}(hc:c=true)(h:Ok (k ()) Q):Ok (.Qo a (X2 c e) Li Lo k k2) Q:=by grind [Ok.QS,Bu]
theorem Ok.ZH{ρ:Type}{Q:ρ->Prop}{a:Nat}{c:Bool}{e:Int}{Li Lo:List (Nat×Nat)}{k k2:Unit->TT ρ}(hc:c=false)(h:Ok (k2 ()) Q):Ok (.Qo a (X2 c e) Li Lo k k2) Q:=by grind [Ok.QA,Bu]
theorem Ls(e:Int):Qz (s57 true e) (λ_=>True):=⟨(),rfl,trivial⟩
theorem Wd(s:za):Qz (Lq s 0) (λr=>r=s):=by
 unfold Lq
 refine Qz.fn ?_
 unfold Qj2
 exact Ok.c (Ls 0) λ_ _=>Ok.d rfl
theorem xD(t:Z7):Qz (nV t 0) (λr=>r=t):=by
 unfold nV
 refine Qz.fn ?_
 unfold Qj4
 exact Ok.c (Ls 0) λ_ _=>Ok.d rfl
theorem xE(b:Bool):Qz (rS b 0) (λr=>r=b):=by
 unfold rS
 refine Qz.fn ?_
 unfold Qjv
 exact Ok.c (Ls 0) λ_ _=>Ok.d rfl
theorem Lx:Qz s66 (λr=>r=nY):=⟨_,rfl,rfl⟩
theorem cN(k:Int)(b:za)(hb:b.size<=100000):strOfNums [Qm k,Qm (Z4 .i64 (b.size:Int) 16),Qm (Z4 .i64 (b.size:Int) 8),Qm (b.size:Int)]++b=Kq k b:=by
 unfold Kq
 rw[show (16:Int)=((16:Nat):Int) from rfl,show (8:Int)=((8:Nat):Int) from rfl,B5 _ 16 (by decide),B5 _ 8 (by decide),N3,N3,N3,N3]
 rfl
theorem V1(n:Qq)(m:Q9)(hb:n.fe.size<=100000)(ht:m.fc.fE.size<=100000):Qz (Xc n m) (λr=>r=m.fc.fE++Kq n.fp n.fe):=by
 show Ok (tW n m) _
 unfold tW
 rw[cN _ _ hb]
 refine Ok.k ?_ (Ok.k ?_ (Ok.d rfl))
 ·rw[W4,zC];grind
 ·rw[K2,zC];omega
theorem IP(st k:Int)(b:za)(m:Q9)(hn:N5 m.fc.fj=true)(hs:0<=m.fc.fm/\m.fc.fm<=100):Qz (Ly st k b m) (λr=>r=((Dl st m.fc.fj).fq,(Dl st m.fc.fj).fV,(Dl st m.fc.fj).fM,m.fc.fm+1,[⟨k,m.fc.fm,b⟩])):=by
 show Ok (tN st k b m) _
 unfold tN
 have e1:Q0 (m.fc.fm+1)=m.fc.fm+1:=Z3 (by omega) (by omega)
 rw[e1]
 refine Ok.c Lx λr hr=>?_
 subst hr
 refine Ok.n (R:=λc=>c=!decide (st=1\/st=6)) (Ok.e (λh=>Ok.d ?_) λh=>Ok.d ?_) λc hc=>?_
 ·grind
 ·grind
 subst hc
 unfold Dl
 refine Ok.e (λh=>?_) λh=>?_
 ·rw[if_neg (by simpa using h)]
  grind [Ok.c,qV,xD,Ok.g,Ok.d]
 ·rw[if_pos (by simp at h;omega)]
  exact Ok.g (Ok.g (Ok.d rfl))
theorem Pl(m:Q9)(hf:m.fc.fX.size=32):Qz (VW m) (λr=>r=ZO m.fc):=by
 show Ok (tG m) _
 unfold tG
 refine Ok.c (JI _) λr hr=>?_
 rw[if_pos hf] at hr
 subst hr
 exact Ok.c (Wd _) λr hr=>Ok.d hr
theorem SS(a b c d:za)(m:Q9)(ha:a.size<=100)(hb:b.size<=100)(hc:c.size<=100)(hd:d.size<=100):Qz (nB a b c d m) (λr=>r=Ah a b c d):=by
 show Ok (tU a b c d m) _
 unfold tU
 refine Ok.k (by grind) (Ok.k (by grind) (Ok.c (GK (a++b) (c++d) aF (by grind) (by grind) (by decide)) λr hr=>?_))
 subst hr
 exact Ok.c (Wd _) λr hr=>Ok.d hr
theorem DG(m:Q9)(side s:za)(hm:m.fc.fI.size<=100)(hd:side.size<=100)(hs:s.size<=4096):Qz (VZ m side s) (λr=>r=P0 m.fc.fI side s):=by
 show Ok (tY m side s) _
 unfold tY
 refine Ok.c (GK _ zd side (by omega) (by decide) (by omega)) λr hr=>?_
 subst hr
 refine Ok.c (Wd _) λk hk=>?_
 subst hk
 refine Ok.c (SG s hs) λr hr=>?_
 subst hr
 refine Ok.c (Wd _) λr hr=>?_
 subst hr
 refine Ok.c (yH _ _ (by rw[Ya];decide) (by rw[Wu];decide)) λr hr=>?_
 subst hr
 exact Ok.c (Wd _) λr hr=>Ok.d hr
theorem BY(s:za)(m:Q9)(hs:s.size<=1000000):(nC s m).o=some (if okB s=false then .inr (false,5) else if UP (Zo s) m.fc.ft m.fc.fj≠0 then .inr (true,UP (Zo s) m.fc.ft m.fc.fj) else .inl ((Zo s).fA,(Zo s).fL,(Zo s).fG,(Zo s).fH,(Zo s).fO)):=by
 show (tH s m).run=_
 unfold tH
 have h1:=(Ex s hs).eq
 cases ho:okB s with
 | false=>
  have hd:YK s=(zB,5):=by unfold YK;rw[ho];rfl
  rw[if_pos rfl]
  simp only[T.run,h1,hd,Bu]
  rfl
 | true=>
  have hd:YK s=(Zo s,0):=by grind [YK]
  have h2:=(bE (Zo s) m.fc.ft m.fc.fj).eq
  rw[if_neg (by decide)]
  simp only[T.run,h1,hd,Bu,h2,show ((0:Int)==0)=true from rfl,cond_true]
  by_cases ha:UP (Zo s) m.fc.ft m.fc.fj=0
  ·grind
  ·rw[if_pos ha,show (UP (Zo s) m.fc.ft m.fc.fj != 0)=true from by simpa using ha];rfl
theorem DA(k p:za)(hk:k.size=32)(hp:p.size=32):(VY k p).o=some (if xS k p=Wj then .inr 2 else .inl (xS k p)):=by
 show (tJ k p).run=_
 unfold tJ
 have h1:=(CY k p hk hp).eq
 by_cases h:xS k p=Wj
 ·rw[if_pos h]
  rw[if_pos ((Sk k p).1 h)] at h1
  simp only[T.run,h1];rfl
 simp_all [if_neg,Sk,T.run]
theorem eA(m:Q9)(h:Vf m.fc):(Qz4 m).o=some (2,m.fc.fm+1,[⟨1,m.fc.fm,m.fc.fB++ZO m.fc⟩],(Dl 2 m.fc.fj).fq,(Dl 2 m.fc.fj).fV,(Dl 2 m.fc.fj).fM):=by
 refine Qz.eq ?_
 show Ok (tT m) _
 unfold tT
 refine Ok.v (Pl m h.fr) λr hr=>?_
 subst hr
 refine Ok.k ?_ (Ok.c (IP 2 1 _ m h.nw (by have:=h.sd;omega)) λr hr=>Ok.d ?_)
 ·rw[L6,h.rn];decide
 grind
theorem Cr{P:Program}{G:ze}{ρ:Type}{g:T P G ρ}{x:ρ}(h:Ok g (λr=>r=x)):g.run=some x:=by obtain⟨r,h1,rfl⟩:=h;exact h1
theorem Qqx{b:za}(h:b.size=32):((b.size:Int)==32)=true:=by rw[h];rfl
theorem Qzx{b:za}(h:b.size≠32):((b.size:Int)==32)=false:=by simp;omega
theorem sZ(b:za)(m:Q9)(h:Vf m.fc)(hb:b.size<=4000):(rV b m).o=some (if b.size≠32 then .inr 5 else if ¬m.fc.fm < 7 then .inr 3 else .inl (3,m.fc.fm+1,Kq 1 (m.fc.fB++ZO m.fc++b),[⟨1,m.fc.fm,m.fc.fB++ZO m.fc++b⟩],(Dl 3 m.fc.fj).fq,(Dl 3 m.fc.fj).fV,(Dl 3 m.fc.fj).fM)):=by
 show (tF b m).run=_
 refine Cr ?_
 unfold tF
 by_cases hb:b.size=32
 rotate_left
 ·rw[if_pos hb];exact Ok.ZH (Qzx hb) (Ok.d rfl)
 rw[if_neg (by simpa using hb)]
 refine Ok.Zp (Qqx hb) ?_
 by_cases hs:m.fc.fm < 7
 rotate_left
 ·rw[if_pos hs];exact Ok.ZH (wB hs) (Ok.d rfl)
 rw[if_neg (by simpa using hs)]
 refine Ok.Zp (zR hs) ?_
 have sd:=h.sd
 have hz:(m.fc.fB++ZO m.fc).size=64:=by rw[ByteArray.size_append,L6,h.rn]
 refine Ok.v (Pl m h.fr) λr hr=>?_
 subst hr
 refine Ok.k (by grind) (Ok.k (by grind) (Ok.c (IP 3 1 _ ⟨m.fc,m.QY,m.QL⟩ h.nw (by grind)) λr hr=>?_))
 subst hr
 refine Ok.c (V1 ⟨1,m.fc.fm,m.fc.fB++ZO m.fc++b⟩ _ (by grind) (show (0:Nat)<=100000 by decide)) λr hr=>Ok.d ?_
 grind [ByteArray.empty_append,ByteArray.empty]
theorem Qhe(b:za)(m:Q9)(h:Vf m.fc):(Qz2 b m).o=some (if b.size≠32 then .inr (false,5) else if b≠P0 m.fc.fI Di m.fc.fE then .inr (true,9) else .inl (m.fc.fE++Kq 5 b,-1,0,0)):=by
 show (tO b m).run=_
 refine Cr ?_
 unfold tO
 by_cases hb:b.size=32
 rotate_left
 ·rw[if_pos hb];exact Ok.ZH (Qzx hb) (Ok.d rfl)
 rw[if_neg (by simpa using hb)]
 refine Ok.Zp (Qqx hb) (Ok.v (DG m Di m.fc.fE (by have:=h.ma;omega) (by decide) (by have:=h.td;omega)) λr hr=>?_)
 subst hr
 by_cases hc:b=P0 m.fc.fI Di m.fc.fE
 ·rw[if_neg (by simpa using hc)]
  refine Ok.f (by grind) (Ok.c (V1 ⟨5,0,b⟩ ⟨m.fc,m.QY,m.QL⟩ (by grind) (show m.fc.fE.size<=100000 by have:=h.td;omega)) λr hr=>Ok.c Lx λr2 hr2=>Ok.d ?_)
  subst hr hr2;rfl
 ·rw[if_pos hc]
  exact Ok.t (by grind) (Ok.o (r:=()) rfl (Ok.UX (Ok.d rfl)))
theorem Qqe(m:Q9)(h:Vf m.fc):(Qz3 m).o=some (bif !(Ub m.fc.fC m.fc.fj).1 then .inl (m.fc.fC.fq,m.fc.fC.fV,m.fc.fC.fM,m.QL) else bif (NI m.fc.fC m.fc.fj).2 != 0 then .inr () else .inl ((NI m.fc.fC m.fc.fj).1.fq,(NI m.fc.fC m.fc.fj).1.fV,(NI m.fc.fC m.fc.fj).1.fM,m.fc.fo)):=by
 show (tB m).run=_
 refine Cr ?_
 unfold tB
 have e0:(Ub m.fc.fC m.fc.fj).2=0:=by unfold Ub;rw[h.tm,h.nw];rfl
 refine Ok.c (yZ m.fc.fC m.fc.fj) λr hr=>?_
 subst hr
 rw[e0]
 refine Ok.c (xE _) λr hr=>?_
 subst hr
 refine Ok.e (by grind [Ok.d]) λhc=>?_
 rw[hc,cond_false]
 refine Ok.c (yJ m.fc.fC m.fc.fj) λr hr=>?_
 subst hr
 refine Ok.e (λhd=>?_) (by grind [Ok.d])
 rw[hd,cond_true]
 exact Ok.o (r:=()) rfl (Ok.UX (Ok.d rfl))
def oE(s:Q4)(b:za):(Q4×List Qq)⊕(za×za×za×Bool×Int)->Prop
 | .inl r=>I5 s b=.inl r
 | .inr q=>I5 s b=.inr (q.2.2.2.1,q.q)
theorem oZ(b:za)(m:Q9)(h:Vf m.fc)(hb:b.size<=4000):Ok (tL b m) (oE m.fc b):=by
 have inl:∀r,I5 m.fc b=.inl r->oE m.fc b (.inl r):=λ_ h=>h
 have inr:∀q,I5 m.fc b=.inr (q.2.2.2.1,q.q)->oE m.fc b (.inr q):=λ_ h=>h
 generalize hQ:oE m.fc b=Q at *
 clear hQ
 unfold tL
 unfold I5 at inl inr
 by_cases h64:64 < b.size
 rotate_left
 ·rw[if_pos h64] at inr
  exact Ok.ZH (by grind) (Ok.d (inr _ rfl))
 rw[if_neg (by grind)] at inl inr
 have c2:(decide (0<=(64:Int))&&decide ((64:Int)<=(b.size:Int)))=true:=by simp;omega
 have c3:(decide (0<=(32:Int))&&decide ((32:Int)<=(b.size:Int)))=true:=by simp;omega
 have hx:(b.extract 64 b.size).size=b.size - 64:=by simp_all
 have z1:(b.extract 0 32).size=32:=by rw[ByteArray.size_extract];omega
 have z2:(b.extract 32 64).size=32:=by rw[ByteArray.size_extract];omega
 have e1:=BY (b.extract 64 b.size) m (by omega)
 refine Ok.Zp (zR (by omega)) (Ok.k c2 ?_)
 cases ho:okB (b.extract 64 b.size) with
 | false=>
  rw[ho,if_pos rfl] at e1 inr
  exact Ok.QA e1 (Ok.d (inr _ rfl))
 | true=>
  rw[ho,if_neg (by decide)] at e1 inr inl
  generalize UP (Zo (b.extract 64 b.size)) m.fc.ft m.fc.fj=acc at *
  by_cases ha:acc=0
  rotate_left
  ·rw[if_pos ha] at e1 inr
   exact Ok.QA e1 (Ok.d (inr _ rfl))
  rw[if_neg (by simpa using ha)] at e1 inr inl
  have hb2:=(Yb ho).2
  have kz:=(DN ho).1
  have f1:=DA m.fc.fX (Zo (b.extract 64 b.size)).fL h.fr kz
  have f2:=DA m.fc.gc (b.extract 32 64) h.sc z2
  refine Ok.QS e1 (Ok.k c3 (Ok.k (by rw[c2];rfl) (Ok.k c2 ?_)))
  by_cases s1:xS m.fc.fX (Zo (b.extract 64 b.size)).fL=Wj
  ·rw[if_pos (Or.inl s1)] at inr
   rw[if_pos s1] at f1
   exact Ok.QA f1 (Ok.d (inr _ rfl))
  rw[if_neg s1] at f1
  refine Ok.QS f1 ?_
  by_cases s2:xS m.fc.gc (b.extract 32 64)=Wj
  ·rw[if_pos (Or.inr s2)] at inr
   rw[if_pos s2] at f2
   exact Ok.QA f2 (Ok.d (inr _ rfl))
  rw[if_neg (λq=>q.elim s1 s2)] at inl
  rw[if_neg s2] at f2
  refine Ok.QS f2 ?_
  have td:=h.td
  have bz:=h.bz
  have sd:=h.sd
  have tz:(ML m.fc b).size<=600:=by grind [ByteArray.size_append,K2,ML]
  have mz:(DW m.fc b).size=32:=Ya _ _ _
  refine Ok.c (SS _ _ _ _ _ (by rw[O6];decide) (by rw[O6];decide) (by rw[h.rn];decide) (by grind)) λr hr=>?_
  rw[show r=DW m.fc b from hr]
  clear hr
  refine Ok.c (V1 ⟨3,0,b⟩ _ (show b.size<=100000 by omega) (show m.fc.fE.size<=100000 by omega)) λr hr=>?_
  rw[show r=ML m.fc b from hr]
  clear hr
  have tz2:(ML m.fc b++m.fc.fh).size<=700:=by rw[ByteArray.size_append];omega
  refine Ok.k (by rw[zC];omega) (Ok.v (DG _ EJ (ML m.fc b++m.fc.fh) (show (DW m.fc b).size<=100 by omega) (by decide) (by omega)) λr hr=>?_)
  rw[show r=P0 (DW m.fc b) EJ (ML m.fc b++m.fc.fh) from hr]
  clear hr
  refine Ok.k (by rw[zC,N9];omega) (Ok.c (IP 5 4 (YM m.fc b) _ h.nw (show 0<=m.fc.fm/\m.fc.fm<=100 by omega)) λr hr=>?_)
  subst hr
  refine Ok.c (V1 ⟨4,m.fc.fm,YM m.fc b⟩ _ (show (YM m.fc b).size<=100000 by unfold YM;rw[ByteArray.size_append,N9];omega) (show (ML m.fc b).size<=100000 by omega)) λr hr=>Ok.d (inl _ ?_)
  rw[hr];rfl
def oH(s:Q4)(f b:za):(Q4×List Qq)⊕Int->Prop
 | .inl r=>T1 s f b=.inl r
 | .inr e=>T1 s f b=.inr (false,e)
theorem cG(b:za)(m:Q9)(h:Vf m.fc)(hf:m.QY.size<=64):Ok (tI b m) (oH m.fc m.QY b):=by
 have inl:∀r,T1 m.fc m.QY b=.inl r->oH m.fc m.QY b (.inl r):=λ_ h=>h
 have inr:∀e,T1 m.fc m.QY b=.inr (false,e)->oH m.fc m.QY b (.inr e):=λ_ h=>h
 generalize hQ:oH m.fc m.QY b=Q at *
 clear hQ
 unfold tI
 unfold T1 at inl inr
 have td:=h.td
 have bz:=h.bz
 have sd:=h.sd
 have ck:=h.ck
 by_cases hz:b.size=64\/b.size=96
 rotate_left
 ·have n1:((b.size:Int)==64)=false:=by simp;omega
  have n2:((b.size:Int)==96)=false:=by simp;omega
  rw[if_pos ⟨λe=>hz (.inl e),λe=>hz (.inr e)⟩] at inr
  exact Ok.f n1 (Ok.ZH n2 (Ok.d (inr _ rfl)))
 rw[if_neg (λq=>hz.elim q.1 q.2)] at inl inr
 have c2:(decide (0<=(64:Int))&&decide ((64:Int)<=(b.size:Int)))=true:=by simp;omega
 have c3:(decide (0<=(32:Int))&&decide ((32:Int)<=(b.size:Int)))=true:=by simp;omega
 have z0:(b.extract 0 64).size=64:=by rw[ByteArray.size_extract];omega
 have zf:(m.QY++b.extract 0 64).size<=128:=by grind
 have om:=yH m.fc.fZ (m.QY++b.extract 0 64) (by omega) (by omega)
 generalize hM:N7 m.fc.fZ (m.QY++b.extract 0 64)=M at *
 have zr:(m.fc.fB++ZO m.fc).size=64:=by rw[ByteArray.size_append,L6,h.rn]
 have zt:(Mv m.fc b).size<=600:=by grind [ByteArray.size_append,K2,Mv]
 have zb:(Uf m.fc).size<=200:=by grind [ByteArray.size_append,Uf]
 refine Ok.e (λ_=>Ok.Zp rfl ?_) λhn=>Ok.Zp (by grind) ?_
 all_goals
  refine Ok.k c2 (Ok.k (by grind) (Ok.c om λr hr=>?_))
  subst hr
  refine Ok.c (Wd _) λr hr=>?_
  subst hr
  refine Ok.k c2 ?_
  by_cases hc:b.extract 64 b.size=r
  ·rw[if_neg (by simpa using hc)] at inl
   refine Ok.f (by grind) (Ok.k c3 (Ok.k (by rw[c2];rfl) (Ok.c (V1 ⟨1,0,b⟩ _ (show b.size<=100000 by omega) (show m.fc.fE.size<=100000 by omega)) λr2 hr2=>?_)))
   rw[show r2=Mv m.fc b from hr2]
   clear hr2
   refine Ok.v (Pl _ (show m.fc.fX.size=32 from h.fr)) λp hp=>?_
   rw[show p=ZO m.fc from hp]
   clear hp
   refine Ok.k (by grind) (Ok.k (by grind) (Ok.c (IP 4 3 (Uf m.fc) _ h.nw (by grind)) λq hq=>?_))
   subst hq
   refine Ok.c (V1 ⟨3,m.fc.fm,Uf m.fc⟩ _ (show (Uf m.fc).size<=100000 by omega) (show (Mv m.fc b).size<=100000 by omega)) λq hq=>Ok.d (inl _ ?_)
   rw[hq];rfl
  ·rw[if_pos hc] at inl inr
   refine Ok.t (by grind) ?_
   by_cases hs:m.fc.fm < 6
   ·rw[if_neg (by simpa using hs)] at inl
    refine Ok.Zp (zR hs) (Ok.c (IP 1 2 r ⟨m.fc,m.QY,m.QL⟩ h.nw (show 0<=m.fc.fm/\m.fc.fm<=100 by omega)) λq hq=>Ok.d (inl _ ?_))
    subst hq;rfl
   ·rw[if_pos hs] at inr
    exact Ok.ZH (wB hs) (Ok.d (inr _ rfl))
def oU(s:Q4)(b:za):(Int×Int×za×za×za×List Qq×Int×Int×Int)⊕(za×Bool×Int)->Prop
 | .inl r=>G5 s b=.inl ({ s with fw:=r.1,fm:=r.2.1,fE:=r.2.2.1,fk:=⟨s.fk.fB,s.fk.fQ,r.2.2.2.1⟩,fI:=r.q.1,fo:=r.q.2.1,fC:=⟨r.q.2.2.1,r.q.2.2.2.1,r.q.q⟩ },r.q.2.1)
 | .inr q=>G5 s b=.inr (q.2.1,q.2.2)
theorem sU(b:za)(m:Q9)(h:Vf m.fc)(hb:b.size<=4000)(hp:m.fc.fk.fQ.size=32):Ok (tA b m) (oU m.fc b):=by
 have inl:∀r,G5 m.fc b=.inl ({ m.fc with fw:=r.1,fm:=r.2.1,fE:=r.2.2.1,fk:=⟨m.fc.fk.fB,m.fc.fk.fQ,r.2.2.2.1⟩,fI:=r.q.1,fo:=r.q.2.1,fC:=⟨r.q.2.2.1,r.q.2.2.2.1,r.q.q⟩ },r.q.2.1)->oU m.fc b (.inl r):=λ_ h=>h
 have inr:∀q,G5 m.fc b=.inr (q.2.1,q.2.2)->oU m.fc b (.inr q):=λ_ h=>h
 generalize hQ:oU m.fc b=Q at *
 clear hQ
 unfold tA
 unfold G5 at inl inr
 by_cases h64:32 < b.size
 rotate_left
 ·rw[if_pos h64] at inr
  exact Ok.ZH (by grind) (Ok.d (inr _ rfl))
 rw[if_neg (by grind)] at inl inr
 have c3:(decide (0<=(32:Int))&&decide ((32:Int)<=(b.size:Int)))=true:=by simp;omega
 have hx:(b.extract 32 b.size).size=b.size - 32:=by rw[ByteArray.size_extract];omega
 have e1:=BY (b.extract 32 b.size) m (by omega)
 refine Ok.Zp (zR (by omega)) (Ok.k c3 (Ok.k c3 ?_))
 cases ho:okB (b.extract 32 b.size) with
 | false=>
  rw[ho,if_pos rfl] at e1 inr
  exact Ok.QA e1 (Ok.d (inr _ rfl))
 | true=>
  rw[ho,if_neg (by decide)] at e1 inr inl
  generalize UP (Zo (b.extract 32 b.size)) m.fc.ft m.fc.fj=acc at *
  by_cases ha:acc=0
  rotate_left
  ·rw[if_pos ha] at e1 inr
   exact Ok.QA e1 (Ok.d (inr _ rfl))
  rw[if_neg (by simpa using ha)] at e1 inr inl
  have hb2:=(Yb ho).2
  have kz:=(DN ho).1
  have f1:=DA m.fc.gc m.fc.fk.fQ h.sc hp
  have f2:=DA m.fc.fX (Zo (b.extract 32 b.size)).fL h.fr kz
  refine Ok.QS e1 ?_
  by_cases s1:xS m.fc.gc m.fc.fk.fQ=Wj
  ·rw[if_pos (Or.inl s1)] at inr
   rw[if_pos s1] at f1
   exact Ok.QA f1 (Ok.d (inr _ rfl))
  rw[if_neg s1] at f1
  refine Ok.QS f1 ?_
  by_cases s2:xS m.fc.fX (Zo (b.extract 32 b.size)).fL=Wj
  ·rw[if_pos (Or.inr s2)] at inr
   rw[if_pos s2] at f2
   exact Ok.QA f2 (Ok.d (inr _ rfl))
  rw[if_neg (λq=>q.elim s1 s2)] at inl inr
  rw[if_neg s2] at f2
  refine Ok.QS f2 ?_
  have td:=h.td
  have bz:=h.bz
  have sd:=h.sd
  have pr:=h.pp.2
  have mz:(Kb m.fc b).size=32:=Ya _ _ _
  refine Ok.c (SS _ _ _ _ _ (by rw[O6];decide) (by rw[O6];decide) (by omega) (by rw[h.rn];decide)) λr hr=>?_
  rw[show r=Kb m.fc b from hr]
  clear hr
  have tz0:(m.fc.fE++b.extract 32 b.size).size<=1000:=by grind
  refine Ok.k (by grind) (Ok.v (DG _ EJ (m.fc.fE++b.extract 32 b.size) (by grind) (by decide) (by omega)) λr hr=>?_)
  have hr:r=P0 (Kb m.fc b) EJ (m.fc.fE++b.extract 32 b.size):=hr
  rw[<-hr] at inl inr
  clear hr
  by_cases hc:b.extract 0 32=r
  rotate_left
  ·rw[if_pos hc] at inr
   exact Ok.t (by grind) (Ok.o (r:=()) rfl (Ok.UX (Ok.d (inr _ rfl))))
  rw[if_neg (by simpa using hc)] at inl
  refine Ok.f (by grind) (Ok.c (V1 ⟨4,0,b⟩ _ (show b.size<=100000 by omega) (show m.fc.fE.size<=100000 by omega)) λt ht=>?_)
  rw[show t=WK m.fc b from ht]
  clear ht
  have tz:(WK m.fc b).size<=1000:=by unfold WK;rw[ByteArray.size_append,K2];omega
  have zc:(JU m.fc b).size=32:=N9 _ _ _
  refine Ok.v (DG _ Di (WK m.fc b) (show (Kb m.fc b).size<=100 by omega) (by decide) (by omega)) λc hc=>?_
  rw[show c=JU m.fc b from hc]
  clear hc
  refine Ok.c (IP 6 5 (JU m.fc b) _ h.nw (show 0<=m.fc.fm/\m.fc.fm<=100 by omega)) λq hq=>?_
  subst hq
  refine Ok.c (V1 ⟨5,m.fc.fm,JU m.fc b⟩ _ (show (JU m.fc b).size<=100000 by omega) (show (WK m.fc b).size<=100000 by omega)) λq hq=>Ok.d (inl _ ?_)
  rw[hq];rfl
def oW(s:Q4)(f:za)(n:Qq):(Q4×List Qq)⊕(za×za×za×za×Bool×Int)->Prop
 | .inl r=>H5 s f n=.inl r
 | .inr q=>H5 s f n=.inr (q.q.1,q.q.2)
theorem MV{p:Q9}{n:Qq}{f:FuncId}{a b c:Int}{x0 h0 hk hf}(h:Ir p.fc.fF p.fc.fw n.fp [QU a,QU b,QU c]=true):(EL p n f a b c x0 h0 hk hf).o=some ():=by
 grind [EL]
theorem iM(n:Qq)(m:Q9)(h:Vf m.fc)(hf:m.QY.size<=64)(hn:n.fe.size<=4000)(hs:m.QL=[]):Ok (tC n m) (oW m.fc m.QY n):=by
 have inl:∀r,H5 m.fc m.QY n=.inl r->oW m.fc m.QY n (.inl r):=λ_ h=>h
 have inr:∀q,H5 m.fc m.QY n=.inr (q.q.1,q.q.2)->oW m.fc m.QY n (.inr q):=λ_ h=>h
 generalize hQ:oW m.fc m.QY n=Q at *
 clear hQ
 unfold tC
 have q3:∀{a b c:Int} {r:Bool},Ir m.fc.fF m.fc.fw n.fp [QU a,QU b,QU c]=r->(r=true->m.fc.fF=a/\m.fc.fw=b/\n.fp=c)/\(r=false->¬(m.fc.fF=a/\m.fc.fw=b/\n.fp=c)):=(by grind [LO])
 have rP:=sZ n.fe m h hn
 refine Ok.e (λh0=>?_) λh0=>Ok.e (λh1=>?_) λh1=>Ok.e (λh2=>?_) λh2=>Ok.e (λh3=>?_) λh3=>Ok.e (λh4=>?_) λh4=>Ok.e (λh5=>?_) λh5=>?_
 ·obtain⟨a,b,c⟩:=(q3 h0).1 rfl
  have e:H5 m.fc m.QY n=Ys m.fc n.fe:=by simp_all [if_pos,H5]
  rw[e] at inl inr
  unfold Ys at inl inr
  refine Ok.t rfl (Ok.AB (r:=()) (MV h0) (Ok.Zp rfl ?_))
  by_cases z:n.fe.size≠32
  ·rw[if_pos z] at rP inr;exact Ok.QA rP (Ok.d (inr _ rfl))
  rw[if_neg z] at rP inr inl
  by_cases z2:¬m.fc.fm < 7
  ·rw[if_pos z2] at rP inr;exact Ok.QA rP (Ok.d (inr _ rfl))
  rw[if_neg z2] at rP inr inl
  exact Ok.QS rP (Ok.d (inl _ rfl))
 ·obtain⟨a,b,c⟩:=(q3 h1).1 rfl
  have e:H5 m.fc m.QY n=Ys m.fc n.fe:=by simp_all [if_pos,H5]
  rw[e] at inl inr
  unfold Ys at inl inr
  refine Ok.t rfl (Ok.AB (r:=()) (MV h1) (Ok.Zp rfl ?_))
  by_cases z:n.fe.size≠32
  ·rw[if_pos z] at rP inr;exact Ok.QA rP (Ok.d (inr _ rfl))
  rw[if_neg z] at rP inr inl
  by_cases z2:¬m.fc.fm < 7
  ·rw[if_pos z2] at rP inr;exact Ok.QA rP (Ok.d (inr _ rfl))
  rw[if_neg z2] at rP inr inl
  exact Ok.QS rP (Ok.d (inl _ rfl))
 ·obtain⟨a,b,c⟩:=(q3 h2).1 rfl
  have e:H5 m.fc m.QY n=I5 m.fc n.fe:=by
   simp_all [if_neg,if_pos,H5]
  rw[e] at inl inr
  refine Ok.t rfl (Ok.AB (r:=()) (MV h2) (Ok.Zp rfl ?_))
  obtain⟨x,x1,x2⟩:=oZ n.fe m h hn
  cases x with
  | inl r=>exact Ok.QS (show (rT n.fe m).o=_ from x1) (Ok.d (inl _ x2))
  | inr r=>exact Ok.QA (show (rT n.fe m).o=_ from x1) (Ok.d (inr _ x2))
 ·obtain⟨a,b,c⟩:=(q3 h3).1 rfl
  have e:H5 m.fc m.QY n=UF m.fc n.fe:=by
   simp_all [if_neg,if_pos,H5]
  rw[e] at inl inr
  unfold UF at inl inr
  refine Ok.t rfl (Ok.AB (r:=()) (MV h3) (Ok.Zp rfl ?_))
  have dP:=Qhe n.fe m h
  by_cases z:n.fe.size≠32
  ·rw[if_pos z] at dP inr;exact Ok.QA dP (Ok.d (inr _ rfl))
  rw[if_neg z] at dP inr inl
  by_cases z2:n.fe≠P0 m.fc.fI Di m.fc.fE
  ·rw[if_pos z2] at dP inr;exact Ok.QA dP (Ok.d (inr _ rfl))
  rw[if_neg z2] at dP inr inl
  exact Ok.QS dP (Ok.g (Ok.d (inl _ (by rw[hs];rfl))))
 ·obtain⟨a,b,c⟩:=(q3 h4).1 rfl
  have e:H5 m.fc m.QY n=T1 m.fc m.QY n.fe:=by
   simp_all [if_neg,if_pos,H5]
  rw[e] at inl inr
  refine Ok.t rfl (Ok.AB (r:=()) (MV h4) (Ok.Zp rfl ?_))
  obtain⟨x,x1,x2⟩:=cG n.fe m h hf
  cases x with
  | inl r=>exact Ok.QS (show (rC n.fe m).o=_ from x1) (Ok.d (inl _ x2))
  | inr r=>exact Ok.QA (show (rC n.fe m).o=_ from x1) (Ok.d (inr _ x2))
 ·obtain⟨a,b,c⟩:=(q3 h5).1 rfl
  have e:H5 m.fc m.QY n=G5 m.fc n.fe:=by
   simp_all [if_neg,if_pos,H5]
  rw[e] at inl inr
  refine Ok.t rfl (Ok.AB (r:=()) (MV h5) (Ok.Zp rfl ?_))
  obtain⟨x,x1,x2⟩:=sU n.fe m h hn (h.lk a b)
  cases x with
  | inl r=>exact Ok.QS (show (rB n.fe m).o=_ from x1) (Ok.d (inl _ x2))
  | inr r=>exact Ok.QA (show (rB n.fe m).o=_ from x1) (Ok.d (inr _ x2))
 ·have n0:=(q3 h0).2 rfl
  have n1:=(q3 h1).2 rfl
  have n2:=(q3 h2).2 rfl
  have n3:=(q3 h3).2 rfl
  have n4:=(q3 h4).2 rfl
  have n5:=(q3 h5).2 rfl
  have e:H5 m.fc m.QY n=.inr (false,8):=by
   unfold H5;grind
  rw[e] at inl inr
  refine Ok.t rfl (Ok.AB (r:=()) ?_ (Ok.ZH rfl (Ok.d (inr _ rfl))))
  grind [Vm,Ir,X3]
def EvR(s:Q4)(v:Q2):(Q4×List Qq)⊕(za×za×za×za×Bool×Int)->Prop
 | .inl r=>Er s v=.inl r
 | .inr q=>Er s v=.inr (q.q.1,q.q.2)
theorem Qen(v:Q2)(m:Q9)(h:Vf m.fc)(hf:m.QY=v.fG)(hf2:v.fG.size<=64)(hn:v.fp=2->v.fP.fe.size<=4000)(hs:m.QL=[])(hk:1<=v.fp/\v.fp<=4):Ok (jO m v) (EvR m.fc v):=by
 have inl:∀r,Er m.fc v=.inl r->EvR m.fc v (.inl r):=λ_ h=>h
 have inr:∀q,Er m.fc v=.inr (q.q.1,q.q.2)->EvR m.fc v (.inr q):=λ_ h=>h
 generalize hQ:EvR m.fc v=Q at *
 clear hQ
 unfold jO
 unfold Er at inl inr
 refine Ok.e (λh1=>?_) λh1=>?_
 ·rw[if_pos (by simpa using h1)] at inl inr
  unfold Xn at inl inr
  refine Ok.e (λh2=>?_) λh2=>?_
  ·rw[h2,Bool.true_and] at inl inr
   cases h3:(m.fc.fw==1) with
   | true=>
    rw[h3,cond_true] at inl
    exact Ok.Zp rfl (Ok.c (Qz.o (eA m h)) λr hr=>Ok.d (inl _ (by rw[hr];rfl)))
   | false=>
    rw[h3,cond_false] at inr
    exact Ok.ZH rfl (Ok.d (inr _ rfl))
  ·rw[h2,Bool.false_and,cond_false] at inr
   exact Ok.ZH rfl (Ok.d (inr _ rfl))
 rw[if_neg (by simpa using h1)] at inl inr
 refine Ok.e (λh2=>?_) λh2=>?_
 ·have h2:v.fp=2:=by simpa using h2
  rw[if_pos h2] at inl inr
  obtain⟨x,x1,x2⟩:=iM v.fP m h (by rw[hf];exact hf2) (hn h2) hs
  rw[hf] at x2
  cases x with
  | inl r=>exact Ok.QS (show (pB v.fP m).o=_ from x1) (Ok.d (inl _ x2))
  | inr r=>exact Ok.QA (show (pB v.fP m).o=_ from x1) (Ok.d (inr _ x2))
 rw[if_neg (by simpa using h2)] at inl inr
 refine Ok.e (λh3=>?_) λh3=>?_
 ·rw[if_pos (by simpa using h3)] at inl inr
  have tP:=Qqe m h
  unfold FF at inl inr
  cases hd:(!(Ub m.fc.fC m.fc.fj).1) with
  | true=>
   simp_all [cond_true,Ok.QS,Ok.d]
  | false=>
   rw[hd,cond_false] at tP inl inr
   cases ha:((NI m.fc.fC m.fc.fj).2 != 0) with
   | true=>
    rw[ha,cond_true] at tP inr
    exact Ok.QA tP (Ok.d (inr _ rfl))
   | false=>
    rw[ha,cond_false] at tP inl
    exact Ok.QS tP (Ok.d (inl _ rfl))
 rw[if_neg (by simpa using h3)] at inl inr
 grind [Ok.t,Ok.e,Ok.d]
theorem Qh6(e:Int)(m:Q9):(iE m e).run=some (-1,0,0):=by
 have h1:(Qz5 e m).o=some (-1,0,0):=by
  refine Qz.eq ?_
  show Ok (tV e m) _
  unfold tV
  exact Ok.c Lx λr hr=>Ok.d (by rw[hr];rfl)
 refine Cr ?_
 unfold iE
 exact Ok.o (r:=()) rfl (Ok.ff (Ok.o (r:=()) rfl (Ok.tt (Ok.c (Qz.o h1) λr hr=>Ok.g (Ok.d hr)))))
theorem vH(v:Q2)(s:Q4)(h:Vf s)(hf2:v.fG.size<=64)(hn:v.fp=2->v.fP.fe.size<=4000)(hk:1<=v.fp/\v.fp<=4) :
  vW ⟨s,v.fG,[]⟩ v=some (match Er s v with|.inl r=>.inl ⟨r.1,v.fG,r.2⟩|.inr (true,e)=>.inl ⟨Bn s e,v.fG,[]⟩|.inr (false,e)=>.inr e):=by
 obtain⟨x,x1,x2⟩:=Qen v ⟨s,v.fG,[]⟩ h rfl hf2 hn rfl hk
 unfold vW
 rw[x1]
 cases x with
 | inl r=>
  rw[show Er s v=.inl r from x2];rfl
 | inr q=>
  obtain⟨q1,q2,q3,q4,q5,q6⟩:=q
  rw[show Er s v=.inr (q5,q6) from x2]
  cases q5 with
  | true=>
   simp only[cond_true,Qh6]
   rfl
  | false=>rfl
theorem GM(l:List za)(h:l.length<=100000):(s60 l).o=some ():=by
 show (g60 l).run=_
 refine Cr ?_
 unfold g60
 exact Ok.app (by grind) (Ok.d rfl)
theorem HZ(l:List Qq)(h:l.length<=100000):(s61 l).o=some ():=by
 show (g61 l).run=_
 refine Cr ?_
 unfold g61
 exact Ok.app (by grind) (Ok.d rfl)
def Qqp:(Q4×List Qq)⊕(Bool×Int)->Q4×List Qq×Int
 | .inl r=>Vl r
 | .inr r=>(BC,[],r.2)
theorem Vf.at{s:Q4}(h:Vf s){n:Int}(hn:N5 n=true):Vf { s with fj:=n }:=⟨hn,h.sc,h.fr,h.rn,h.ck,h.bd,h.bz,h.pl,h.ps,h.sd,h.td,h.tm,h.pb,h.pp,h.ma,h.ll,h.lk⟩
theorem Qhy(s:Q4)(v:Q2)(h:s.fo.length<=1):∀r,Er s v=.inl r->r.2.length<=1:=by
 intro r hr
 have sh:∀(x:Out),(∀q,x=.inl q->q.2.length<=1)->x=.inl r->r.2.length<=1:=λx hx he=>hx r he
 unfold Er at hr
 split at hr
 ·unfold Xn at hr
  cases hc:(s.fF==1&&s.fw==1)<;>rw[hc] at hr<;>simp at hr
  rw[<-hr];simp
 split at hr
 ·unfold H5 at hr
  split at hr
  ·unfold Ys at hr
   (repeat' split at hr)<;>simp at hr
   rw[<-hr];simp
  split at hr
  ·unfold I5 at hr
   (repeat' split at hr)<;>simp at hr
   rw[<-hr];simp
  split at hr
  ·unfold UF at hr
   (repeat' split at hr)<;>simp at hr
   rw[<-hr];simp
  split at hr
  ·unfold T1 at hr
   (repeat' split at hr)<;>simp at hr<;>(rw[<-hr];simp)
  split at hr
  ·unfold G5 at hr
   (repeat' split at hr)<;>simp at hr
   rw[<-hr];simp
  ·simp at hr
 split at hr
 ·unfold FF at hr
  cases hc:(!(Ub s.fC s.fj).1)<;>rw[hc] at hr
  ·rw[cond_false] at hr
   cases hd:((NI s.fC s.fj).2 != 0)<;>rw[hd] at hr<;>simp at hr
   rw[<-hr];exact h
  ·simp at hr
   rw[<-hr];simp
 ·simp at hr
  rw[<-hr]
  cases (s.fF==2)
  ·simp
  ·exact h
theorem Yq(s:Q4)(v:Q2)(hs:Sm s):Qz (mI s v) (λr=>r=D5 s v):=by
 have key:Ok (jI s v) (λq=>Qqp q=D5 s v):=by
  unfold jI
  refine Ok.c (GJ s hs) λr hr=>?_
  subst hr
  unfold D5
  cases hv:Zz s with
  | false=>exact Ok.ZH rfl (Ok.d rfl)
  | true=>
   refine Ok.Zp rfl ?_
   rw[cond_true]
   have vf:=Yr hv
   unfold iG
   refine Ok.e (λc1=>?_) λc1=>Ok.ZH rfl (Ok.d (by rw[c1];rfl))
   refine Ok.e (λc2=>?_) λc2=>Ok.ZH rfl (Ok.d (by rw[c1,c2];rfl))
   refine Ok.e (λc3=>?_) λc3=>Ok.ZH rfl (Ok.d (by rw[c1,c2,c3];rfl))
   refine Ok.e (λc4=>?_) λc4=>Ok.ZH rfl (Ok.d (by rw[c1,c2,c3,c4];rfl))
   cases c5:decide ((v.fG.size:Int)<=64) with
   | false=>exact Ok.ZH rfl (Ok.d (by rw[c1,c2,c3,c4];rfl))
   | true=>
    rw[c1,c2,c3,c4]
    simp only[Bool.true_and]
    refine Ok.Zp rfl ?_
    have hnw:N5 v.fj=true:=by
     have:=vf.nw
     unfold N5 at this ⊢
     simp only[zD,zC] at this c3 c4 ⊢
     omega
    have vf2:=vf.at hnw
    have hf2:v.fG.size<=64:=by simp at c5;omega
    have hk:1<=v.fp/\v.fp<=4:=by simp at c1 c2;exact⟨c1,c2⟩
    have e1:=GM s.ft (by have:=vf.pl;omega)
    have e2:=HZ s.fo (by have:=vf.ll;omega)
    have e3:Qz (s59 v.fG) (λr=>r=v.fG):=by
     show Ok (g59 v.fG) _
     unfold g59
     exact Ok.c (R:=λ_=>True) (show Ok (jC _) _ from Ok.k (by rw[zC];omega) (Ok.d trivial)) λ_ _=>Ok.d rfl
    have evl:=Qhy { s with fj:=v.fj } v vf.ll
    have eve:∀(hn:v.fp=2->v.fP.fe.size<=4000),(nW v ⟨{ s with fj:=v.fj },v.fG,[]⟩).o=some (match Er { s with fj:=v.fj } v with|.inl r=>.inl ⟨r.1,v.fG,r.2⟩|.inr (true,e)=>.inl ⟨Bn { s with fj:=v.fj } e,v.fG,[]⟩|.inr (false,e)=>.inr e):=λhn=>vH v { s with fj:=v.fj } vf2 hf2 hn hk
    generalize hE:Er { s with fj:=v.fj } v=E at *
    refine Ok.e (λc6=>?_) λc6=>?_
    ·have k2:v.fp≠2:=by simpa using c6
     have eve:=eve λh=>absurd h k2
     refine Ok.Zp rfl (Ok.c e3 λr hr=>?_)
     subst hr
     refine Ok.c (Qz.o e1) λ_ _=>Ok.c (Qz.o e2) λ_ _=>Ok.g (Ok.g (Ok.g ?_))
     rw[c6,Bool.true_or,cond_true]
     match E,eve,evl with
     | .inl r,eve,evl=>exact Ok.QS eve (Ok.c (Qz.o (HZ r.2 (by have:=evl r rfl;omega))) λ_ _=>Ok.g (Ok.d rfl))
     | .inr (true,e),eve,evl=>exact Ok.QS eve (Ok.c (Qz.o (HZ [] (by simp))) λ_ _=>Ok.g (Ok.d rfl))
     | .inr (false,e),eve,evl=>exact Ok.QA eve (Ok.d rfl)
    ·refine Ok.c (GW v.fP) λr hr=>?_
     rw[c6,Bool.false_or]
     cases hn:S7 v.fP with
     | false=>
      rw[hn] at hr
      subst hr
      exact Ok.ZH rfl (Ok.d rfl)
     | true=>
      rw[hn] at hr
      subst hr
      have eve:=eve λ_=>by
       unfold S7 at hn
       simp only[zD,zC] at hn
       omega
      refine Ok.Zp rfl (Ok.c e3 λr hr=>?_)
      subst hr
      refine Ok.c (Qz.o e1) λ_ _=>Ok.c (Qz.o e2) λ_ _=>Ok.g (Ok.g (Ok.g ?_))
      rw[cond_true]
      match E,eve,evl with
      | .inl r,eve,evl=>exact Ok.QS eve (Ok.c (Qz.o (HZ r.2 (by have:=evl r rfl;omega))) λ_ _=>Ok.g (Ok.d rfl))
      | .inr (true,e),eve,evl=>exact Ok.QS eve (Ok.c (Qz.o (HZ [] (by simp))) λ_ _=>Ok.g (Ok.d rfl))
      | .inr (false,e),eve,evl=>exact Ok.QA eve (Ok.d rfl)
 obtain⟨q,h1,h2⟩:=key
 refine⟨D5 s v,?_,rfl⟩
 show stM s v=_
 unfold stM
 rw[h1,<-h2]
 cases q<;>rfl
theorem Pe(t:Y0)(ht:Jj t)(s:Q4)(f:za)(n:Qq)(h:Vf s)(g:Vg s)(hf:f.size<=64)(hn:n.fe.size<=4000):Qz (s76 t s f n) (λr=>r=Eb s (H5 s f n)):=by
 unfold s76
 refine Qz.fn ?_
 unfold g76
 have sd:=g.sd
 refine Ok.n (R:=λc=>c=decide (s.fF=1/\(s.fw=2\/s.fw=3)/\n.fp=2)) ?_ λc hc=>?_
 ·refine(by grind [Ok.e,Ok.d])
  all_goals grind
 subst hc
 by_cases q0:s.fF=1/\(s.fw=2\/s.fw=3)/\n.fp=2
 ·have e:H5 s f n=Ys s n.fe:=by unfold H5;rw[if_pos q0]
  rw[e]
  exact Ok.t (zR q0) (Ok.c (Lg s n h hn (g.s7 q0.2.1)) λr hr=>Ok.d hr)
 refine Ok.f (wB q0) (Ok.n (R:=λc=>c=decide (s.fF=1/\s.fw=3/\n.fp=3)) ?_ λc hc=>?_)
 ·refine Ok.e (λh1=>Ok.e (λh2=>Ok.d ?_) λh2=>Ok.d ?_) λh1=>Ok.d ?_
  all_goals grind
 subst hc
 by_cases q1:s.fF=1/\s.fw=3/\n.fp=3
 ·have e:H5 s f n=I5 s n.fe:=by unfold H5;grind
  grind [Ok.t,decide_eq_true,Ok.c,Ia,Ok.d]
 refine Ok.f (wB q1) (Ok.n (R:=λc=>c=decide (s.fF=1/\s.fw=5/\n.fp=5)) ?_ λc hc=>?_)
 ·refine Ok.e (λh1=>Ok.e (λh2=>Ok.d ?_) λh2=>Ok.d ?_) λh1=>Ok.d ?_
  all_goals grind
 subst hc
 by_cases q2:s.fF=1/\s.fw=5/\n.fp=5
 ·have e:H5 s f n=UF s n.fe:=by simp_all [if_neg,if_pos,H5]
  grind [Ok.t,decide_eq_true,Ok.c,CQ,Ok.d]
 refine Ok.f (wB q2) (Ok.n (R:=λc=>c=decide (s.fF=2/\s.fw=1/\n.fp=1)) ?_ λc hc=>?_)
 ·refine Ok.e (λh1=>Ok.e (λh2=>Ok.d ?_) λh2=>Ok.d ?_) λh1=>Ok.d ?_
  all_goals grind
 subst hc
 by_cases q3:s.fF=2/\s.fw=1/\n.fp=1
 ·have e:H5 s f n=T1 s f n.fe:=by simp_all [if_neg,if_pos,H5]
  rw[e]
  exact Ok.t (zR q3) (Ok.c (Ln t ht s f n h hf q3.2.2 (g.s6 q3.1 q3.2.1)) λr hr=>Ok.d hr)
 refine Ok.f (wB q3) (Ok.n (R:=λc=>c=decide (s.fF=2/\s.fw=4/\n.fp=4)) ?_ λc hc=>?_)
 ·refine Ok.e (λh1=>Ok.e (λh2=>Ok.d ?_) λh2=>Ok.d ?_) λh1=>Ok.d ?_
  all_goals grind
 subst hc
 by_cases q4:s.fF=2/\s.fw=4/\n.fp=4
 ·have e:H5 s f n=G5 s n.fe:=by simp_all [if_neg,if_pos,H5]
  rw[e]
  exact Ok.t (zR q4) (Ok.c (Gc t ht s n h hn q4.2.2 (h.lk q4.1 q4.2.1)) λr hr=>Ok.d hr)
 have e:H5 s f n=.inr (false,8):=by simp_all [if_neg,H5]
 rw[e]
 exact Ok.f (wB q4) (Ok.d rfl)
theorem vT{t:Z7}{now:Int}(h:Uk t=true)(hn:N5 now=true)(hd:(Ub t now).1=true):((NI t now).2==4)=((NI t now).2 != 0):=by
 grind [Ub,NI,stZ]
theorem Vg.at{s:Q4}(h:Vg s)(n:Int):Vg { s with fj:=n }:=⟨h.sd,h.s7,h.s6⟩
theorem Wx(t:Y0)(ht:Jj t)(s:Q4)(v:Q2)(hs:Sm s):Qz (s37 t s v) (λr=>r=D5 s v):=by
 unfold s37
 refine Qz.fn ?_
 unfold g37 D5
 refine Ok.c (XF s hs) λr hr=>?_
 subst hr
 cases hv:Zz s with
 | false=>exact Ok.t rfl (Ok.d rfl)
 | true=>
  refine Ok.f rfl ?_
  rw[cond_true]
  have vf:=Yr hv
  have vg:=(nU hv).at v.fj
  have nw:=vf.nw
  refine Ok.n (R:=λc=>c=!iG s v) ?_ λc hc=>?_
  ·refine Ok.c (Pd v) λr hr=>?_
   subst hr
   have e0:decide (v.fj < s.fj)=!decide (s.fj<=v.fj):=jZ _ _
   rw[e0]
   unfold N5 at nw
   simp only[zD,zC] at nw
   grind [decide_eq_true,Ok.e,Ok.d,iG,decide]
  subst hc
  cases he:iG s v with
  | false=>exact Ok.t rfl (Ok.d rfl)
  | true=>
   refine Ok.f rfl ?_
   rw[cond_true]
   unfold iG at he
   simp only[zD,zC] at he
   obtain⟨k1,k2,k3,k4,k5,k6⟩:=he
   have hnw:N5 v.fj=true:=by
    unfold N5 at nw ⊢
    grind
   have vf2:=vf.at hnw
   unfold Er
   refine Ok.e (λh1=>?_) λh1=>?_
   ·rw[if_pos (by simpa using h1)]
    unfold Xn
    refine Ok.n (R:=λc=>c=!(s.fF==1&&s.fw==1)) ?_ λc hc=>?_
    ·refine Ok.e (λh=>Ok.d ?_) λh=>Ok.d ?_
     all_goals grind
    subst hc
    cases hb:(s.fF==1&&s.fw==1) with
    | false=>exact Ok.t rfl (Ok.d rfl)
    | true=>
     refine Ok.f rfl (Ok.c (Hv _ (show s.fX.size=32 from vf.fr)) λp hp=>?_)
     subst hp
     refine Ok.k (by rw[zC,L6,vf.rn];decide) (Ok.c (JX _ 2 1 _ hnw (show 0<=s.fm/\s.fm<=100 by have:=vf.sd;omega) (by decide)) λq hq=>Ok.d ?_)
     subst hq;rfl
   rw[if_neg (by simpa using h1)]
   refine Ok.e (λh2=>?_) λh2=>?_
   ·have h2:v.fp=2:=by simpa using h2
    rw[if_pos h2]
    have hn:v.fP.fe.size<=4000:=by
     rw[h2] at k6
     have k6:S7 v.fP=true:=k6
     unfold S7 at k6
     grind
    grind [Ok.c,Pe,Ok.d]
   rw[if_neg (by simpa using h2)]
   refine Ok.e (λh3=>?_) λh3=>?_
   ·rw[if_pos (by simpa using h3)]
    unfold FF
    refine Ok.c (GZ _ _) λr hr=>?_
    subst hr
    cases hd:(Ub s.fC v.fj).1 with
    | false=>
     exact Ok.t rfl (Ok.d rfl)
    | true=>
     refine Ok.f rfl (Ok.c (Pa _ _) λr hr=>?_)
     subst hr
     have av:=vT vf.tm hnw hd
     show Ok _ (λr=>r=Eb _ (bif (NI s.fC v.fj).2 != 0 then _ else .inl ({ s with fj:=v.fj,fC:=(NI s.fC v.fj).1 },s.fo)))
     rw[<-av]
     refine Ok.e (λh=>?_) λh=>?_
     ·rw[h]
      exact Ok.c (C7 _ 6) λr hr=>Ok.d (by rw[hr];rfl)
     ·rw[h]
      exact Ok.d rfl
   rw[if_neg (by simpa using h3)]
   grind [Ok.e,Ok.d,Eb]
def Aq(side:Int)(sec bdg fr rn ck:za)(ps:List za)(now:Int):Q4:=⟨side,1,now,sec,bdg,fr,rn,ck,ps,0,zd,⟨zd,zd,zd⟩,zd,[],nY,0⟩
def GA(side:Int)(sec bdg fr rn ck:za)(ps:List za)(now:Int):Q4×Int:=
 bif Zz (Aq side sec bdg fr rn ck ps now) then bif decide ((Zo bdg).fL=xS sec YF) then (Aq side sec bdg fr rn ck ps now,0) else (BC,2) else (BC,2)
theorem Pf(side:Int)(sec bdg fr rn ck:za)(ps:List za)(now:Int)(h:Sm (Aq side sec bdg fr rn ck ps now)):Qz (s30 side sec bdg fr rn ck ps now) (λr=>r=GA side sec bdg fr rn ck ps now):=by
 show Ok (g30 side sec bdg fr rn ck ps now) _
 unfold g30 GA
 refine Ok.c (Qz.o (GM ps (by have:=h.pr;show ps.length<=_;exact Nat.le_trans this (by decide)))) λ_ _=>Ok.c Lx λr hr=>?_
 subst hr
 refine Ok.v (GJ (Aq side sec bdg fr rn ck ps now) h) λr hr=>?_
 subst hr
 cases hv:Zz (Aq side sec bdg fr rn ck ps now) with
 | false=>exact Ok.t rfl (Ok.d rfl)
 | true=>
  have vf:=Yr hv
  have ho:okB bdg=true:=vf.bd
  refine Ok.f rfl (Ok.c (Ex bdg (by have:bdg.size<=86:=vf.bz;omega)) λr hr=>Ok.c (JI sec) λr2 hr2=>?_)
  rw[if_pos (show sec.size=32 from vf.sc)] at hr2
  have hr:r.1=Zo bdg:=by rw[hr];unfold YK;rw[ho];rfl
  subst hr2
  rw[hr]
  generalize xS sec YF=P
  generalize (Zo bdg).fL=K
  refine Ok.n (R:=λc=>c=!decide (K=P)) (Ok.f rfl (Ok.d (by rw[Bool.eq_iff_iff];simp;exact⟨λh e=>h e.symm,λh e=>h e.symm⟩))) λc hc=>?_
  subst hc
  cases hk:decide (K=P) with
  | false=>exact Ok.t rfl (Ok.d rfl)
  | true=>exact Ok.f rfl (Ok.g (Ok.d rfl))
theorem qP(side:Int)(sec bdg fr rn ck:za)(ps:List za)(now:Int)(h:Sm (Aq side sec bdg fr rn ck ps now)):Qz (mA side sec bdg fr rn ck ps now) (λr=>r=GA side sec bdg fr rn ck ps now):=by
 show Ok (g31 side sec bdg fr rn ck ps now) _
 unfold g31 GA
 refine Ok.c Wi λr hr=>?_
 subst hr
 have hp:ps.length<=1000:=h.pr
 refine Ok.app (show (0+ps.length) * 16<=140737488355328 by omega) (Ok.v (XF (Aq side sec bdg fr rn ck ps now) h) λr hr=>?_)
 subst hr
 cases hv:Zz (Aq side sec bdg fr rn ck ps now) with
 | false=>exact Ok.t rfl (Ok.d rfl)
 | true=>
  have vf:=Yr hv
  have ho:okB bdg=true:=vf.bd
  refine Ok.f rfl (Ok.c (Mi bdg) λr hr=>Ok.c Mx λr2 hr2=>?_)
  subst hr2
  have hr:r.1=Zo bdg:=by rw[hr];unfold YK;rw[ho];rfl
  rw[hr]
  refine Ok.c (Ht sec YF (show sec.size=32 from vf.sc) JO) λr hr=>?_
  subst hr
  generalize xS sec YF=P
  generalize (Zo bdg).fL=K
  cases hk:decide (K=P) with
  | false=>exact Ok.t rfl (Ok.d rfl)
  | true=>exact Ok.f rfl (Ok.g (Ok.d rfl))
structure Xq(n:Nat)(s:Q4):Prop where
 bd:s.fh.size<=10000
 pb:s.fk.fh.size<=10000
 td:s.fE.size<=10000
 rn:s.fB.size<=10000
 pr:s.ft.length<=n
 ps:∀p,p∈s.ft->p.size<=10000
 ls:s.fo.length<=n
theorem Xq.sm{n:Nat}{s:Q4}(h:Xq n s)(hn:n<=100):Sm s:=⟨Nat.le_trans h.bd (by decide),Nat.le_trans h.pb (by decide),Nat.le_trans h.td (by decide),Nat.le_trans h.rn (by decide),by have:=h.pr;omega,λp hp=>Nat.le_trans (h.ps p hp) (by decide),by have:=h.ls;omega⟩
theorem smZ:Xq 8 BC:=⟨by decide,by decide,by decide,by decide,by decide,λp hp=>(by cases hp),by decide⟩
theorem Vf.oT{s:Q4}(h:Vf s):Xq 8 s:=⟨by have:=h.bz;omega,by have:=h.pb;omega,by have:=h.td;omega,by have:=h.rn;omega,h.pl,λp hp=>by have:=h.ps p hp;omega,by have:=h.ll;omega⟩
def NB(l:List Qq):Prop:=l.length<=8/\∀n,n∈l->n.fe.size<=10000
theorem lM:NB []:=⟨Nat.zero_le _,λ_ h=>nomatch h⟩
theorem bN{n:Qq}(h:n.fe.size<=10000):NB [n]:=⟨show 1<=8 by decide,(by grind)⟩
def PP(r:Q4×List Qq):Prop:=Xq 8 r.1/\NB r.2
def OP(x:Out):Prop:=∀r,x=.inl r->PP r
theorem Ig{x:Q4×List Qq}(h:PP x):OP (.inl x):=λ_ e=>Sum.inl.inj e▸h
theorem UN{q:Bool×Int}:OP (.inr q):=λ_ e=>nomatch e
theorem Jd{c:Prop}[Decidable c]{x y:Out}(hx:OP x)(hy:OP y):OP (if c then x else y):=by grind
theorem vI{c:Bool}{x y:Out}(hx:OP x)(hy:OP y):OP (bif c then x else y):=by grind
theorem VS(s:Q4)(b:za)(h:Vf s)(hb:b.size<=4000):OP (Ys s b):=by
 have z:=h.oT
 have z5:=h.rn
 unfold Ys
 refine Jd UN (Jd UN (Ig ⟨⟨z.bd,z.pb,?_,z.rn,z.pr,z.ps,show 1<=8 by decide⟩,bN ?_⟩))
 ·grind [K2,ByteArray.size_append,L6,Kq,ZO]
 grind [ByteArray.size_append,L6,ZO]
theorem Tl(s:Q4)(b:za)(h:Vf s)(hb:b.size<=4000):OP (I5 s b):=by
 have z:=h.oT
 have z2:=h.bz
 have z3:=h.td
 have e1:(ML s b).size=s.fE.size+(4+b.size):=by unfold ML;rw[ByteArray.size_append,K2]
 have e2:(YM s b).size=32+s.fh.size:=by unfold YM;rw[ByteArray.size_append,N9]
 have e3:(ML s b++Kq 4 (YM s b)).size<=10000:=by rw[ByteArray.size_append,K2];omega
 unfold I5
 generalize ML s b++Kq 4 (YM s b)=T at *
 generalize YM s b=B at *
 generalize DW s b=M
 refine Jd UN (Jd UN (Jd UN (Jd UN (Ig ⟨⟨z.bd,?_,e3,z.rn,z.pr,z.ps,show 1<=8 by decide⟩,(by grind [bN])⟩))))
 show (b.extract 64 b.size).size<=10000
 rw[ByteArray.size_extract];omega
theorem iP(s:Q4)(b:za)(h:Vf s)(hb:b.size<=4000):OP (UF s b):=by
 have z:=h.oT
 have z3:=h.td
 unfold UF
 refine Jd UN (Jd UN (Ig ⟨⟨z.bd,z.pb,?_,z.rn,z.pr,z.ps,show 0<=8 by decide⟩,lM⟩))
 grind [ByteArray.size_append,K2,Kq]
theorem jX(s:Q4)(f b:za)(h:Vf s)(hb:b.size<=4000):OP (T1 s f b):=by
 have z:=h.oT
 have z2:=h.bz
 have z3:=h.td
 have z5:=h.rn
 have e1:(Mv s b).size=s.fE.size+(4+b.size):=by unfold Mv;rw[ByteArray.size_append,K2]
 have e2:(Uf s).size=s.fB.size+32+s.fh.size:=by grind [ByteArray.size_append,L6,Uf]
 have e3:(Mv s b++Kq 3 (Uf s)).size<=10000:=by rw[ByteArray.size_append,K2];omega
 unfold T1
 have e4:(N7 s.fZ (f++b.extract 0 64)).size=32:=R7 _ _
 generalize N7 s.fZ (f++b.extract 0 64)=M at *
 generalize Mv s b++Kq 3 (Uf s)=T at *
 generalize Uf s=B at *
 exact Jd UN (Jd (Jd UN (Ig ⟨⟨z.bd,z.pb,z.td,z.rn,z.pr,z.ps,show 1<=8 by decide⟩,(by grind [bN])⟩)) (Ig ⟨⟨z.bd,show 0<=10000 by decide,e3,z.rn,z.pr,z.ps,show 1<=8 by decide⟩,(by grind [bN])⟩))
theorem qJ(s:Q4)(b:za)(h:Vf s)(hb:b.size<=4000):OP (G5 s b):=by
 have z:=h.oT
 have z3:=h.td
 have e1:(WK s b).size=s.fE.size+(4+b.size):=by unfold WK;rw[ByteArray.size_append,K2]
 have e2:(JU s b).size=32:=N9 _ _ _
 have e3:(WK s b++Kq 5 (JU s b)).size<=10000:=by rw[ByteArray.size_append,K2];omega
 unfold G5
 generalize WK s b++Kq 5 (JU s b)=T at *
 generalize JU s b=C at *
 generalize P0 (Kb s b) EJ (s.fE++b.extract 32 b.size)=D
 generalize Kb s b=M
 refine Jd UN (Jd UN (Jd UN (Jd UN (Jd UN (Ig ⟨⟨z.bd,?_,e3,z.rn,z.pr,z.ps,show 1<=8 by decide⟩,(by grind [bN])⟩)))))
 show (b.extract 32 b.size).size<=10000
 rw[ByteArray.size_extract];omega
theorem Qhq(s:Q4)(v:Q2)(h:Vf s)(hl:NB s.fo)(hb:v.fp=2->v.fP.fe.size<=4000):OP (Er s v):=by
 have z:=h.oT
 unfold Er
 split
 ·unfold Xn
  refine vI (Ig ⟨⟨z.bd,z.pb,z.td,z.rn,z.pr,z.ps,show 1<=8 by decide⟩,bN ?_⟩) UN
  show (s.fB++ZO s).size<=10000
  rw[ByteArray.size_append,L6,h.rn];decide
 split
 ·rename_i hk
  have hb:=hb hk
  unfold H5
  exact Jd (VS s _ h hb) (Jd (Tl s _ h hb) (Jd (iP s _ h hb) (Jd (jX s _ _ h hb) (Jd (qJ s _ h hb) UN))))
 split
 ·unfold FF
  exact vI (Ig ⟨z,lM⟩) (vI UN (Ig ⟨⟨z.bd,z.pb,z.td,z.rn,z.pr,z.ps,z.ls⟩,hl⟩))
 ·refine Ig ⟨z,?_⟩
  grind [lM,NB]
theorem iZ{s:Q4}(h:Zz s=true):NB s.fo:=by
 unfold Zz at h
 simp only[zD] at h
 obtain⟨x,_,hl⟩:=List.any_eq_true.1 h.2
 unfold B1 at hl
 simp only[zD] at hl
 have l8:=hl.q.2.2.2
 unfold UO at l8
 split at l8
 ·simp_all [zC,List.eq_nil_of_length_eq_zero,lM]
 ·split at l8
  ·rename_i hq
   rw[hq]
   unfold S7 at l8
   simp only[zD,zC] at l8
   exact bN (by omega)
  ·cases l8
theorem KV(s:Q4)(v:Q2):Xq 8 (D5 s v).1/\NB (D5 s v).2.1:=by
 unfold D5
 cases hv:Zz s with
 | false=>exact⟨smZ,lM⟩
 | true=>
  cases he:iG s v with
  | false=>exact⟨smZ,lM⟩
  | true=>
   have vf:=Yr hv
   unfold iG at he
   simp only[zD,zC] at he
   obtain⟨k1,k2,k3,k4,k5,k6⟩:=he
   have nw:=vf.nw
   have hnw:N5 v.fj=true:=by
    unfold N5 at nw ⊢
    grind
   have vf2:=vf.at hnw
   have key:=Qhq { s with fj:=v.fj } v vf2 (show NB s.fo from iZ hv) λh2=>by
    rw[h2] at k6
    have k6:S7 v.fP=true:=k6
    unfold S7 at k6
    grind
   rw[cond_true,cond_true]
   generalize Er { s with fj:=v.fj } v=E at *
   match E,key with
   | .inl r,key=>exact key r rfl
   | .inr (true,e),_=>have z:=vf2.oT;exact⟨⟨z.bd,show 0<=10000 by decide,show 0<=10000 by decide,z.rn,z.pr,z.ps,show 0<=8 by decide⟩,lM⟩
   | .inr (false,e),_=>exact⟨smZ,lM⟩
theorem Cb(s:Q4){n:Nat}(h:Xq n s)(hn:n<=100):Qz (s25 s s) (λr=>r=true):=by
 unfold s25
 refine Qz.fn ?_
 unfold g25
 have z1:=h.pr
 have z2:=h.ls
 refine Ok.n (R:=λc=>c=false) (by grind [Ok.f,Ok.c,SE,Ok.d]) λc hc=>?_
 subst hc
 refine Ok.f rfl (Ok.p (R:=Sum.elim (λ_=>False) (λ_=>True)) ?_ (λe he=>he.elim) λe _=>?_)
 ·refine Ok.s s.ft.length (by omega) (λk y=>y=(k:Int)) rfl (λk y hy hk=>?_) λy hy=>?_
  ·subst hy
   obtain⟨x,hx,hx'⟩:=E1 (l:=s.ft) (k:=k) hk
   grind [Ok.t,E3,Ok.r,Ok.f,Ok.d,Z8]
  ·subst hy
   exact Ok.f (by rw[E3];simp) (Ok.d trivial)
 ·refine Ok.n (R:=λc=>c=true) ?_ λc hc=>Ok.d hc
  repeat' first
   | refine Ok.d ?_
   | refine Ok.t ?_ ?_
  all_goals simp
theorem Wl(t:Y0)(ht:Jj t)(s:Q4)(v:Q2)(hs:Sm s):Qz (ID t s v) (λr=>r=true):=by
 unfold ID
 refine Qz.fn ?_
 unfold g12
 obtain⟨z1,z2⟩:=KV s v
 refine Ok.c (Yq s v hs) λr hr=>Ok.c (Wx t ht s v hs) λr2 hr2=>?_
 subst hr2
 subst hr
 generalize D5 s v=S at *
 refine Ok.n (R:=λc=>c=true) ?_ λc hc=>Ok.d hc
 exact Ok.t (by simp) (Ok.c (Cb S.1 z1 (by decide)) λr hr=>Ok.t hr (Ok.c (SE S.2.1 (by have:=z2.1;omega)) λr hr=>Ok.d hr))
theorem Xq.mono{n m:Nat}{s:Q4}(h:Xq n s)(hn:n<=m):Xq m s:=⟨h.bd,h.pb,h.td,h.rn,Nat.le_trans h.pr hn,h.ps,Nat.le_trans h.ls hn⟩
theorem SA(b:HC)(s:Q4){n:Nat}(h:Xq n s)(hn:n<=50):Qz (s13 b s) (Xq (n+1)):=by
 show Ok (g13 b s) _
 unfold g13
 have z:=h.mono (Nat.le_succ n)
 have z1:=h.pr
 have z2:=h.ls
 have hK:0<=(if (110:Int) < (b.fJ.size:Int) then (110:Int) else (b.fJ.size:Int))/\(if (110:Int) < (b.fJ.size:Int) then (110:Int) else (b.fJ.size:Int))<=(b.fJ.size:Int)/\(if (110:Int) < (b.fJ.size:Int) then (110:Int) else (b.fJ.size:Int))<=110:=by split<;>omega
 have hT:(b.fJ.extract 0 ((if (110:Int) < (b.fJ.size:Int) then (110:Int) else (b.fJ.size:Int))).toNat).size<=10000:=by rw[ByteArray.size_extract];omega
 refine Ok.app (show (0+s.ft.length) * 16<=140737488355328 by omega) (Ok.app (show (0+s.fo.length) * 32<=140737488355328 by omega) (Ok.k (by rw[zD,zC,zC];exact⟨hK.1,hK.2.1⟩) ?_))
 iterate 8 (refine Ok.e (λ_=>Ok.g (Ok.g (Ok.d ?_))) λ_=>?_;rotate_left)
 ·refine Ok.e (λ_=>Ok.app (show (s.ft.length+1) * 16<=140737488355328 by omega) (Ok.g (Ok.g (Ok.d ?_)))) λ_=>?_
  ·refine⟨z.bd,z.pb,z.td,z.rn,?_,λp hp=>?_,z.ls⟩
   ·show (s.ft++[_]).length<=_
    rw[wD]
    show s.ft.length+1<=_
    omega
   ·have hp:p∈s.ft++[_]:=hp
    rw[wa,wm] at hp
    rcases hp with hp|hp
    ·exact z.ps p hp
    ·rw[hp];exact hT
  iterate 6 (refine Ok.e (λ_=>Ok.g (Ok.g (Ok.d ?_))) λ_=>?_;rotate_left)
  ·refine Ok.e (λ_=>Ok.app (show (s.fo.length+1) * 32<=140737488355328 by omega) (Ok.g (Ok.g (Ok.d ?_)))) λ_=>?_
   ·refine⟨z.bd,z.pb,z.td,z.rn,z.pr,z.ps,?_⟩
    show (s.fo++[_]).length<=_
    rw[wD]
    show s.fo.length+1<=_
    omega
   iterate 3 (refine Ok.e (λ_=>Ok.g (Ok.g (Ok.d ?_))) λ_=>?_;rotate_left)
   ·refine Ok.e (λhl=>?_) λ_=>Ok.g (Ok.g (Ok.d ?_))
    ·have hl:0 < s.fo.length:=by simp at hl;omega
     obtain⟨x,hx,hx'⟩:=E1 (l:=s.fo) (k:=0) hl
     refine Ok.k (by simp;omega) (Ok.r rfl hx' (Ok.re (Ok.g (Ok.g (Ok.g (Ok.d ?_))))))
     refine⟨z.bd,z.pb,z.td,z.rn,z.pr,z.ps,?_⟩
     show (s.fo.set 0 _).length<=_
     rw[List.length_set];exact z.ls
    ·exact⟨z.bd,z.pb,z.td,z.rn,z.pr,z.ps,z.ls⟩
   all_goals exact⟨z.bd,z.pb,z.td,z.rn,z.pr,z.ps,z.ls⟩
  all_goals
   refine⟨z.bd,?_,?_,z.rn,z.pr,z.ps,z.ls⟩
   ·first|exact z.pb|exact hT
   ·first|exact z.td|exact hT
 all_goals
  refine⟨?_,z.pb,z.td,?_,z.pr,z.ps,z.ls⟩
  ·first|exact z.bd|exact hT
  ·first|exact z.rn|exact hT
theorem SI(c:Za)(n:Qq)(hb:n.fe.size<=100000)(hc:0<=c.fq/\c.fq < 256):Qz (s11 c n) (λ_=>True):=by
 show Ok (g11 c n) _
 unfold g11
 have w:∀m:Int,0 < m->m<=100001->0<=Int.tmod (Q0 c.fq) m/\Int.tmod (Q0 c.fq) m < m:=λm h0 h1=>by
  rw[Z3 (by omega) (by omega),Int.tmod_eq_emod_of_nonneg hc.1]
  exact⟨Int.emod_nonneg _ (by omega),Int.emod_lt_of_pos _ h0⟩
 have e:Q0 ((n.fe.size:Int)+1)=(n.fe.size:Int)+1:=Z3 (by omega) (by omega)
 rw[e]
 have w1:=w ((n.fe.size:Int)+1) (by omega) (by omega)
 generalize Int.tmod (Q0 c.fq) ((n.fe.size:Int)+1)=A at *
 refine Ok.e (λ_=>Ok.d trivial) λ_=>Ok.e (λ_=>Ok.d trivial) λ_=>Ok.e (λ_=>Ok.k (by simp;omega) (Ok.k (by simp;omega) (Ok.d trivial))) λ_=>Ok.e (λ_=>Ok.k (by rw[zC];show _+1<=_;omega) (Ok.d trivial)) λ_=>Ok.e (λhl=>?_) λ_=>Ok.d trivial
 have hl:0 < n.fe.size:=by simp at hl;omega
 have el:(Q3 n.fe).length=n.fe.size:=J3 _
 have w2:=w ((Q3 n.fe).length:Int) (by omega) (by omega)
 obtain⟨x,hx,hx'⟩:=E1 (l:=Q3 n.fe) (k:=(Int.tmod (Q0 c.fq) ((Q3 n.fe).length:Int)).toNat) ((Int.toNat_lt w2.1).2 w2.2)
 have hx':(Q3 n.fe)[0+(Int.tmod (Q0 c.fq) ((Q3 n.fe).length:Int)).toNat]?=some x:=by rw[zP];exact hx'
 have c0:(!(((Q3 n.fe).length:Int)==0))=true:=by rw[wc,wQ];omega
 have c1:(decide (0<=(Int.tmod (Q0 c.fq) ((Q3 n.fe).length:Int)))&&decide ((Int.tmod (Q0 c.fq) ((Q3 n.fe).length:Int)) < ((Q3 n.fe).length:Int)))=true:=by rw[zD,zC,zC];exact w2
 exact Ok.o (r:=()) rfl (Ok.k c0 (Ok.k c1 (Ok.r rfl hx' (Ok.k c1 (Ok.r rfl hx' (Ok.re (Ok.g (Ok.o (r:=()) rfl (Ok.d trivial)))))))))
theorem D2(k n:Int):Qz (US k n) (λr=>r.size=32):=by
 unfold US
 refine Qz.fn ?_
 unfold g43
 refine Ok.b (R:=λe=>e.size=32) ?_ λe he=>Ok.d he
 refine Ok.s 32 (by decide) (λk y=>y.1.size=k/\y.2=(k:Int)) ⟨rfl,rfl⟩ (λk y hy hk=>?_) λy hy=>?_
 ·obtain⟨h1,h2⟩:=hy
  refine Ok.t (by grind) (Ok.k (by rw[zC,W4];grind) (Ok.d ⟨?_,?_⟩))
  ·grind [ByteArray.size_append,W4,strOfNums]
  grind [Z3,Q0]
 grind [Ok.f,Ok.d]
theorem Ko(s:za)(h:s.size=32):(I7 s).size<=200:=by
 unfold I7
 rw[ByteArray.size_append,W4,OS,J3,h]
 decide
def UJ(d:Zq):Prop:=(0<=d.fH.a0/\d.fH.a0<=65535)/\(0<=d.fH.a1/\d.fH.a1<=65535)/\0<=d.gr.a0/\0<=d.gr.a1
theorem Gv(d:Zq)(hu:UJ d):Qz (s41 d) (λr=>O7 r.a0=true/\O7 r.a1=true):=by
 unfold s41
 refine Qz.fn ?_
 unfold g41
 obtain⟨u1,u2,_⟩:=hu
 refine Ok.tt (Ok.c (D2 _ _) λr1 h1=>Ok.c Mx λr2 h2=>Ok.c (Ht r1 r2 h1 (by rw[h2];exact JO)) λr3 h3=>Ok.tt (Ok.c (D2 _ _) λr4 h4=>Ok.c Mx λr5 h5=>Ok.c (Ht r4 r5 h4 (by rw[h5];exact JO)) λr6 h6=>Ok.ff (Ok.d ⟨?_,?_⟩)))
 ·have z:r3.size=32:=by grind [O6]
  show O7 ⟨bs [99,108,105,101,110,116],r3,0,Q0 d.fH.a0,0⟩=true
  unfold O7
  have hn:R5 (bs [99,108,105,101,110,116])=true:=by kernel_rfl
  rw[hn,Z3 (by omega) (by omega)]
  grind
 ·have z:r6.size=32:=by grind [O6]
  show O7 ⟨bs [115,101,114,118,101,114,46,101,120,97,109,112,108,101],r6,0,Q0 d.fH.a1,1⟩=true
  unfold O7
  have hn:R5 (bs [115,101,114,118,101,114,46,101,120,97,109,112,108,101])=true:=by kernel_rfl
  rw[hn,Z3 (by omega) (by omega)]
  grind
theorem bO(side:Int)(sec bdg fr rn ck:za)(ps:List za)(now:Int):Xq 8 (GA side sec bdg fr rn ck ps now).1:=by
 unfold GA
 cases h:Zz (Aq side sec bdg fr rn ck ps now) with
 | false=>exact smZ
 | true=>
  have z:=(Yr h).oT
  grind [smZ,decide,Zo,xS,YF]
theorem YG{a1 a2 a3 a4 a5:Nat}{k1 n1 k2 n2 k3 n3 side now:Int}{b:Z5}{ck:za}{ps:List za}(hv:O7 b=true)(hp:ps.length<=2)(hs:∀p,p∈ps->p.size<=200) :
  Ok (.call a1 (US k1 n1) [] [] λr=>.call a2 (BV b) [] [] λr2=>.call a3 (US k2 n2) [] [] λr3=>.call a4 (US k3 n3) [] [] λr4=>.call a5 (mA side r r2 r3 r4 ck ps now) [] [] λx=>.done x.1:TT Q4) (Xq 8):=by
 refine Ok.c (D2 _ _) λr h=>Ok.c (XP b hv) λr2 h2=>Ok.c (D2 _ _) λr3 h3=>Ok.c (D2 _ _) λr4 h4=>?_
 have z:=(Yb (yP hv).1).2
 rw[<-h2] at z
 refine Ok.c (qP side r r2 r3 r4 ck ps now ⟨show r2.size<=_ by omega,show 0<=100000 by decide,show 0<=100000 by decide,show r4.size<=_ by omega,show ps.length<=_ by omega,λp hp=>Nat.le_trans (hs p hp) (by decide),show 0<=1000 by decide⟩) λx hx=>Ok.d ?_
 grind [bO]
theorem four(a:Int)(h:0<=a):Int.tmod a 4=0\/Int.tmod a 4=1\/Int.tmod a 4=2\/Int.tmod a 4=3:=by
 grind
theorem Pm(d:Zq)(hu:UJ d):Qz (s15 d) (λr=>Xq 8 r.a0/\Xq 8 r.a1):=by
 unfold s15
 refine Qz.fn ?_
 unfold g15
 obtain⟨u1,u2,u3,u4⟩:=id hu
 have f0:=four _ u3
 have f1:=four _ u4
 generalize Int.tmod d.gr.a0 4=A at *
 generalize Int.tmod d.gr.a1 4=B at *
 refine Ok.c (Gv d hu) λbg hb=>Ok.c (D2 _ _) λr1 h1=>Ok.c (Kc r1 (by omega)) λo ho=>?_
 have zo:o.size<=200:=by grind [Ko]
 have l1:∀{q:za},q.size<=200->∀p,p∈[q]->p.size<=200:=(by grind)
 have l2:∀{q w:za},q.size<=200->w.size<=200->∀p,p∈[q,w]->p.size<=200:=(by grind)
 refine Ok.tt (Ok.b (R:=Xq 8) ?_ λe he=>Ok.tt (Ok.b (R:=Xq 8) ?_ (by grind [Ok.ff,Ok.d])))
 ·refine Ok.c (Kt bg.a1 hb.2) λq hq=>?_
  have zq:q.size<=200:=by grind [Ko,Wu]
  rcases f0 with rfl|rfl|rfl|rfl
  ·exact Ok.Yi rfl (Ok.ff (Ok.g (YG hb.1 (show 1<=2 by decide) (l1 zq))))
  ·exact Ok.Yi rfl (Ok.ff (Ok.g (YG hb.1 (show 2<=2 by decide) (l2 zo zq))))
  ·exact Ok.Yi rfl (Ok.ff (Ok.g (YG hb.1 (show 1<=2 by decide) (l1 zo))))
  ·exact Ok.Yi rfl (Ok.ff (YG hb.1 (show 0<=2 by decide) λp hp=>nomatch hp))
 ·refine Ok.c (Kt bg.a0 hb.1) λq hq=>?_
  have zq:q.size<=200:=by grind [Ko,Wu]
  rcases f1 with rfl|rfl|rfl|rfl
  ·exact Ok.Yi rfl (Ok.tt (Ok.c (D2 _ _) λ_ _=>Ok.g (YG hb.2 (show 1<=2 by decide) (l1 zq))))
  ·exact Ok.Yi rfl (Ok.tt (Ok.c (D2 _ _) λ_ _=>Ok.g (YG hb.2 (show 2<=2 by decide) (l2 zo zq))))
  ·exact Ok.Yi rfl (Ok.tt (Ok.c (D2 _ _) λ_ _=>Ok.g (YG hb.2 (show 1<=2 by decide) (l1 zo))))
  ·exact Ok.Yi rfl (Ok.tt (Ok.c (D2 _ _) λ_ _=>YG hb.2 (show 0<=2 by decide) λp hp=>nomatch hp))
def Qhp(r:O9×Qq×Int×Bool):Prop:=Xq 8 r.1.a0/\Xq 8 r.1.a1/\r.2.1.fe.size<=10000/\(r.2.2.1=0\/r.2.2.1=1)
def LpE(e:Q4×Q4×List Qq×Int):Prop:=Xq 8 e.1/\Xq 8 e.2.1/\NB e.2.2.1/\(e.2.2.2=0\/e.2.2.2=1)
theorem Cc(d:Zq)(t:Y0)(ht:Jj t)(p:Zx)(hu:UJ d)(hs:0<=p.gt/\p.gt < 256):Qz (s10 d t p) Qhp:=by
 unfold s10
 refine Qz.fn ?_
 unfold g10
 rw[Z3 (n:=p.gt) (by omega) (by omega)]
 have hS:Int.tmod p.gt 8 < 8:=by grind
 generalize Int.tmod p.gt 8=S at *
 generalize Q0 (Int.tmod p.gx 100)=F
 refine Ok.c (Pm d hu) λb hb=>Ok.e (λ_=>Ok.d ⟨hb.1,hb.2,show 0<=10000 by decide,.inl rfl⟩) λ_=>?_
 refine Ok.c (Wx t ht b.a0 _ (hb.1.sm (by decide))) λq hq=>?_
 have zq:=KV b.a0 (Q2.mk 1 b.a0.fj zd (Qq.mk 0 0 zd))
 rw[<-hq] at zq
 clear hq
 refine Ok.p (R:=Sum.elim LpE LpE) ?_ (λe he=>Ok.d ⟨he.1,he.2.1,show 0<=10000 by decide,.inl rfl⟩) λe he=>?_
 ·refine Ok.s 8 (by decide) (λk y=>Xq 8 y.1/\Xq 8 y.2.1/\NB y.2.2.2.1/\(y.q.1=0\/y.q.1=1)/\y.q.2=(k:Int)+1) (by grind) (λk y hy hk=>?_) λy hy=>?_
  ·obtain⟨h1,h2,h3,h4,h5⟩:=hy
   obtain⟨y1,y2,y3,y4,y5,y6⟩:=y
   simp only at h1 h2 h3 h4 h5
   refine Ok.n (R:=λc=>c=true->0 < y4.length) (Ok.e (λ_=>Ok.d λh=>?_) (by grind [Ok.d])) λc hc=>Ok.e (λh=>?_) (by grind [Ok.d,LpE])
   ·grind [E3]
   ·obtain⟨x,hx,hx'⟩:=E1 (l:=y4) (k:=0) (hc h)
    have w1:Q0 (y6+1)=((k+1:Nat):Int)+1:=by grind [Z3]
    rcases h4 with rfl|rfl
    ·refine Ok.Yi rfl (Ok.r rfl hx' (Ok.c (Wx t ht y1 _ (h1.sm (by decide))) λq hq=>Ok.e (λ_=>Ok.d (show LpE (y1,y2,y4,0) from⟨h1,h2,h3,.inl rfl⟩)) λ_=>Ok.Yi rfl (Ok.d ?_)))
     have zq:=KV y1 (Q2.mk 2 (Q0 (y3+F)) (bs [102,97,114]) x)
     rw[<-hq] at zq
     exact⟨zq.1,h2,zq.2,.inr rfl,w1⟩
    ·refine Ok.Yi rfl (Ok.r rfl hx' (Ok.c (Wx t ht y2 _ (h2.sm (by decide))) λq hq=>Ok.e (λ_=>Ok.d (show LpE (y1,y2,y4,1) from⟨h1,h2,h3,.inr rfl⟩)) λ_=>Ok.Yi rfl (Ok.d ?_)))
     have zq:=KV y2 (Q2.mk 2 (Q0 (y3+F)) (bs [102,97,114]) x)
     rw[<-hq] at zq
     exact⟨h1,zq.1,zq.2,.inl rfl,w1⟩
  ·obtain⟨h1,h2,h3,h4,h5⟩:=hy
   obtain⟨y1,y2,y3,y4,y5,y6⟩:=y
   simp only at h1 h2 h3 h4 h5
   exact Ok.n (R:=λc=>c=false) (Ok.f (by grind) (Ok.d rfl)) (by grind [Ok.f,Ok.d,LpE])
 ·obtain⟨h1,h2,h3,h4⟩:=he
  refine Ok.e (λ_=>Ok.d ⟨h1,h2,show 0<=10000 by decide,.inl rfl⟩) λh=>?_
  rw[E3] at h
  obtain⟨x,hx,hx'⟩:=E1 (l:=e.2.2.1) (k:=0) (by grind)
  exact Ok.r rfl hx' (Ok.d ⟨h1,h2,h3.2 x (zQ hx'),h4⟩)
theorem Qzm:Qz s9 Jj:=by
 obtain⟨r,h1,h2⟩:=IS
 exact⟨r,h1,oP h2⟩
theorem lK(t:Y0)(ht:Jj t)(s:Q4)(hs:Sm s)(l:List Q2)(hl:l.length<=100){α β:Type}{a1 a2 a3 a4:Nat}{E:Int->Ext}(u:α)(w:β) :
  Ok (.lp E (λi=>.br a1 (decide (i < (l.length:Int))) (.Qd a2 (decide (0<=i)&&decide (i < (l.length:Int))) (.row a3 K9 l (0+i.toNat) true λx=>.call a4 (ID t s x) [] [] λr=>.br 0 (!r) (.done (.inr (.inl u))) (.done (.inl (Q0 (i+1)))))) (.done (.inr (.inr w)))) 0:TT (α⊕β)) (λe=>e=.inr w):=by
 refine Ok.s l.length (by omega) (λk y=>y=(k:Int)) rfl (λk y hy hk=>?_) λy hy=>?_
 ·subst hy
  obtain⟨x,hx,hx'⟩:=E1 (l:=l) (k:=k) hk
  refine Ok.t (by rw[zC];omega) (Ok.k (by rw[zD,zC,zC];omega) (Ok.r rfl (by rw[zP];exact hx) (Ok.c (Wl t ht s x hs) λr hr=>?_)))
  subst hr
  exact Ok.f rfl (Ok.d (Z8 hk (by omega)))
 ·subst hy
  exact Ok.f (by rw[decide_eq_false_iff_not];omega) (Ok.d rfl)
theorem SQ{a b:Nat}{K:TT Bool}{Q:Bool->Prop}{t:Y0}(ht:Jj t){s:Q4}{v:Q2}(h:Sm s)(hK:Ok K Q):Ok (.call a (ID t s v) [] [] λr=>.br b (!r) (.done false) K) Q:=
 Ok.c (Wl t ht s v h) λr hr=>Ok.f (by rw[hr];rfl) hK
theorem lA(hw:Qz dX (λr=>r=true)){a a1 a2 a3 a4 a5:Nat}{l:List Nat}{t:Y0}(ht:Jj t){s:Q4}{v w:Q2}(h:Sm s):Ok (.QD a l (.call a1 (ID t s v) [] [] λr=>.br a2 r (.call a3 (ID t s w) [] [] λr2=>.br a4 r2 (.call a5 dX [] [] λq=>.done q) (.done false)) (.done false)) zi λc=>.done c:TT Bool) (λr=>r=true):=
 Ok.n (R:=λc=>c=true) (Ok.c (Wl t ht s v h) λr hr=>Ok.t hr (Ok.c (Wl t ht s w h) λr hr=>Ok.t hr (Ok.c hw λr hr=>Ok.d hr))) λc hc=>Ok.d hc
theorem mkO{M:Int}(h:0<=M/\M < 70):(bif decide (0<=M)&&decide (M<=M)&&decide (1 * M.toNat<=281474976710656)&&decide (M<=9223372036854775807) then some () else none)=some ():=by
 rw[zR h.1,zR (Int.le_refl M),zR (show 1 * M.toNat<=281474976710656 by omega),zR (show M<=9223372036854775807 by omega)];rfl
theorem qB(hw:Qz dX (λr=>r=true))(d:Zq)(p:Zx)(x:HC)(c:Za)(raw:Qq)(af:Dd)(hu:UJ d)(hs:0<=p.gt/\p.gt < 256)(hc:0<=c.fq/\c.fq < 256):Qz (s3 d p x c raw af) (λr=>r=true):=by
 unfold s3
 refine Qz.fn ?_
 unfold g3
 refine Ok.c Qzm λt ht=>Ok.c (Cc d t ht p hu hs) λr hr=>?_
 obtain⟨z0,z1,zn,zt⟩:=hr
 have m8:8<=100:=by decide
 have m9:8+1<=100:=by decide
 have l8:8<=50:=by decide
 have ht2:Jj ⟨t.gg,t.fK⟩:=ht
 refine Ok.k (by rw[zD,zC,zC];split<;>omega) ?_
 have hm:0<=Int.tmod (Z1 af.a1) 70/\Int.tmod (Z1 af.a1) 70 < 70:=by
  have h0:0<=Z1 af.a1:=by rw[UT];exact Int.emod_nonneg _ (by decide)
  rw[Int.tmod_eq_emod_of_nonneg h0];omega
 rcases zt with h0|h0
 ·rw[h0]
  refine Ok.Yi rfl (Ok.b (R:=λe=>e.length<=100) ?_ λe he=>Ok.p (lK t ht _ (z0.sm m8) e he _ _) (λe h=>(by cases h)) λe2 h2=>?_)
  ·exact Ok.e (λ_=>Ok.c (SI c r.2.1 (by omega) hc) λ_ _=>Ok.o (r:=()) (mkO hm) (Ok.o (r:=()) rfl (Ok.app (show (5+3) * 64<=140737488355328 by decide) (Ok.g (Ok.d (show 8<=100 by decide)))))) λ_=>Ok.g (Ok.d (show 5<=100 by decide))
  ·have h2:=Sum.inr.inj h2
   subst h2
   refine Ok.c (SA x _ z0 l8) λb hb=>Ok.tt (SQ ht2 (hb.sm m9) (Ok.tt (Ok.g (SQ ht2 (hb.sm m9) (Ok.ff (Ok.Yi rfl ?_))))))
   exact lA hw ht2 (z1.sm m8)
 ·rw[h0]
  refine Ok.Yi rfl (Ok.b (R:=λe=>e.length<=100) ?_ λe he=>Ok.p (lK t ht _ (z1.sm m8) e he _ _) (λe h=>(by cases h)) λe2 h2=>?_)
  ·exact Ok.e (λ_=>Ok.c (SI c r.2.1 (by omega) hc) λ_ _=>Ok.o (r:=()) (mkO hm) (Ok.o (r:=()) rfl (Ok.app (show (5+3) * 64<=140737488355328 by decide) (Ok.g (Ok.d (show 8<=100 by decide)))))) λ_=>Ok.g (Ok.d (show 5<=100 by decide))
  ·have h2:=Sum.inr.inj h2
   subst h2
   refine Ok.c (SA x _ z1 l8) λb hb=>Ok.tt (SQ ht2 (hb.sm m9) (Ok.tt (Ok.g (SQ ht2 (hb.sm m9) (Ok.ff (Ok.Yi rfl ?_))))))
   exact lA hw ht2 (z0.sm m8)
end Go.Proofs.YtjdieimefebnfaaGreatDoor
