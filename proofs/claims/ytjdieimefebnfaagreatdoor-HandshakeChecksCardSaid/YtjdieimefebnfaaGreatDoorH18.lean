/- The program's machine: its methods come to the model. The program's machine: what it is told. The program's machine: hello and proof. The program's S ..; no conditions. -/
import Derived.Test.YtjdieimefebnfaaGreatDoorH10
import Derived.Test.YtjdieimefebnfaaGreatDoorH17
import Derived.Test.YtjdieimefebnfaaGreatDoorH15
import Derived.Test.YtjdieimefebnfaaGreatDoorH14
import Derived.KernelRfl
set_option linter.unusedVariables false
set_option linter.unusedSimpArgs false
set_option maxRecDepth 100000
namespace Go.Proofs.YtjdieimefebnfaaGreatDoor
open Go Go.EV
theorem Bq(c:Bool)(e:Int):(D9 c e).o=some (bif c then .inl () else .inr ()):=by
 show (jO c e).run=_
 unfold jO
 simp only[T.run]
 cases c<;>rfl
theorem Ok.QS{P:Program}{G:ze}{ρ α β:Type}{Q:ρ->Prop}{a:Nat}{s:O0 P G α β}{Li Lo:List (Nat×Nat)}{k:α->T P G ρ}{k2:β->T P G ρ}{v:α}(hs:s.o=some (.inl v))(h:Ok (k v) Q):Ok (.Qi a s Li Lo k k2) Q:=Ok.Qi hs (λr e=>by cases e;exact h) (λr e=>by cases e)
theorem Ok.QA{P:Program}{G:ze}{ρ α β:Type}{Q:ρ->Prop}{a:Nat}{s:O0 P G α β}{Li Lo:List (Nat×Nat)}{k:α->T P G ρ}{k2:β->T P G ρ}{v:β}(hs:s.o=some (.inr v))(h:Ok (k2 v) Q):Ok (.Qi a s Li Lo k k2) Q:=Ok.Qi hs (λr e=>by cases e) (λr e=>by cases e;exact h)
theorem Ok.Zn{ρ:Type}{Q:ρ->Prop}{a:Nat}{c:Bool}{e:Int}{Li Lo:List (Nat×Nat)}{k k2:Unit->TT ρ}(hc:c=true)(h:Ok (k ()) Q):Ok (.Qi a (D9 c e) Li Lo k k2) Q:=by subst hc;exact Ok.QS (Bq true e) h
theorem Ok.ZH{ρ:Type}{Q:ρ->Prop}{a:Nat}{c:Bool}{e:Int}{Li Lo:List (Nat×Nat)}{k k2:Unit->TT ρ}(hc:c=false)(h:Ok (k2 ()) Q):Ok (.Qi a (D9 c e) Li Lo k k2) Q:=by subst hc;exact Ok.QA (Bq false e) h
theorem Lr(e:Int):Qq (s57 true e) (λ_=>True):=⟨(),rfl,trivial⟩
theorem Wm(s:za):Qq (OT s 0) (λr=>r=s):=by
 unfold OT
 refine Qq.fn ?_
 unfold Qj4
 exact Ok.c (Lr 0) λ_ _=>Ok.d rfl
theorem xK(t:Z8):Qq (nV t 0) (λr=>r=t):=by
 unfold nV
 refine Qq.fn ?_
 unfold Qj6
 exact Ok.c (Lr 0) λ_ _=>Ok.d rfl
theorem xW(b:Bool):Qq (rS b 0) (λr=>r=b):=by
 unfold rS
 refine Qq.fn ?_
 unfold Qu1
 exact Ok.c (Lr 0) λ_ _=>Ok.d rfl
theorem Le:Qq s66 (λr=>r=nY):=⟨_,rfl,rfl⟩
theorem cG(k:Int)(b:za)(hb:b.size<=100000):strOfNums [Qk k,Qk (Z5 .i64 (b.size:Int) 16),Qk (Z5 .i64 (b.size:Int) 8),Qk (b.size:Int)]++b=WT k b:=by
 unfold WT
 rw[show (16:Int)=((16:Nat):Int) from rfl,show (8:Int)=((8:Nat):Int) from rfl,S8 _ 16 (by decide),S8 _ 8 (by decide),L3,L3,L3,L3]
 rfl
theorem T6(n:Z1)(m:Q9)(hb:n.fk.size<=100000)(ht:m.fc.fE.size<=100000):Qq (Xc n m) (λr=>r=m.fc.fE++WT n.ft n.fk):=by
 show Ok (tH n m) _
 unfold tH
 rw[cG _ _ hb]
 refine Ok.k ?_ (Ok.k ?_ (Ok.d rfl))
 ·rw[W3,zA];show 4+_<=_;omega
 ·rw[K1,zA];omega
theorem IN(st k:Int)(b:za)(m:Q9)(hn:N0 m.fc.fj=true)(hs:0<=m.fc.fm/\m.fc.fm<=100):Qq (Lq st k b m) (λr=>r=((Da st m.fc.fj).fF,(Da st m.fc.fj).fX,(Da st m.fc.fj).fM,m.fc.fm+1,[⟨k,m.fc.fm,b⟩])):=by
 show Ok (tG st k b m) _
 unfold tG
 have e1:Q0 (m.fc.fm+1)=m.fc.fm+1:=Z4 (by omega) (by omega)
 rw[e1]
 refine Ok.c Le λr hr=>?_
 subst hr
 refine Ok.n (R:=λc=>c=!decide (st=1\/st=6)) (Ok.e (λh=>Ok.d ?_) λh=>Ok.d ?_) λc hc=>?_
 ·have h:st≠1:=by simpa using h
  rw[Bool.eq_iff_iff];simp[h]
 ·have h:st=1:=by simpa using h
  rw[h];rfl
 subst hc
 unfold Da
 refine Ok.e (λh=>?_) λh=>?_
 ·rw[if_neg (by simpa using h)]
  refine Ok.c (qC _ hn) λr hr=>?_
  subst hr
  exact Ok.c (xK _) λr hr=>Ok.g (Ok.g (Ok.d (by rw[hr])))
 ·rw[if_pos (by simp at h;omega)]
  exact Ok.g (Ok.g (Ok.d rfl))
theorem Po(m:Q9)(hf:m.fc.fQ.size=32):Qq (VW m) (λr=>r=T5 m.fc):=by
 show Ok (tF m) _
 unfold tF
 refine Ok.c (JK _) λr hr=>?_
 rw[if_pos hf] at hr
 subst hr
 exact Ok.c (Wm _) λr hr=>Ok.d hr
theorem SG(a b c d:za)(m:Q9)(ha:a.size<=100)(hb:b.size<=100)(hc:c.size<=100)(hd:d.size<=100):Qq (nB a b c d m) (λr=>r=Ah a b c d):=by
 show Ok (tJ a b c d m) _
 unfold tJ
 refine Ok.k (by rw[zA];omega) (Ok.k (by rw[zA];omega) (Ok.c (GW (a++b) (c++d) aO (by rw[ByteArray.size_append];omega) (by rw[ByteArray.size_append];omega) (by decide)) λr hr=>?_))
 subst hr
 exact Ok.c (Wm _) λr hr=>Ok.d hr
theorem DG(m:Q9)(side s:za)(hm:m.fc.fI.size<=100)(hd:side.size<=100)(hs:s.size<=4096):Qq (VZ m side s) (λr=>r=R5 m.fc.fI side s):=by
 show Ok (tZ m side s) _
 unfold tZ
 refine Ok.c (GW _ zd side (by omega) (by decide) (by omega)) λr hr=>?_
 subst hr
 refine Ok.c (Wm _) λk hk=>?_
 subst hk
 refine Ok.c (SA s hs) λr hr=>?_
 subst hr
 refine Ok.c (Wm _) λr hr=>?_
 subst hr
 refine Ok.c (yJ _ _ (by rw[Yk];decide) (by rw[Wy];decide)) λr hr=>?_
 subst hr
 exact Ok.c (Wm _) λr hr=>Ok.d hr
theorem Bc(s:za)(m:Q9)(hs:s.size<=1000000):(nC s m).o=some (if okB s=false then .inr (false,5) else if UR (Za s) m.fc.fp m.fc.fj≠0 then .inr (true,UR (Za s) m.fc.fp m.fc.fj) else .inl ((Za s).fy,(Za s).fJ,(Za s).fG,(Za s).fH,(Za s).fO)):=by
 show (tU s m).run=_
 unfold tU
 have h1:=(Ea s hs).eq
 cases ho:okB s with
 | false=>
  have hd:YZ s=(zB,5):=by unfold YZ;rw[ho];rfl
  rw[if_pos rfl]
  simp only[T.run,h1,hd,Bq]
  rfl
 | true=>
  have hd:YZ s=(Za s,0):=by unfold YZ;rw[ho];rfl
  have h2:=(bE (Za s) m.fc.fp m.fc.fj).eq
  rw[if_neg (by decide)]
  simp only[T.run,h1,hd,Bq,h2,show ((0:Int)==0)=true from rfl,cond_true]
  by_cases ha:UR (Za s) m.fc.fp m.fc.fj=0
  ·rw[if_neg (by simpa using ha),ha];rfl
  ·rw[if_pos ha,show (UR (Za s) m.fc.fp m.fc.fj != 0)=true from by simpa using ha];rfl
theorem DA(k p:za)(hk:k.size=32)(hp:p.size=32):(VY k p).o=some (if xS k p=US then .inr 2 else .inl (xS k p)):=by
 show (tY k p).run=_
 unfold tY
 have h1:=(CZ k p hk hp).eq
 by_cases h:xS k p=US
 ·rw[if_pos h]
  rw[if_pos ((Sk k p).1 h)] at h1
  simp only[T.run,h1];rfl
 ·rw[if_neg h]
  rw[if_neg λq=>h ((Sk k p).2 q)] at h1
  simp only[T.run,h1];rfl
theorem eJ(m:Q9)(h:Vf m.fc):(Qz4 m).o=some (2,m.fc.fm+1,[⟨1,m.fc.fm,m.fc.fq++T5 m.fc⟩],(Da 2 m.fc.fj).fF,(Da 2 m.fc.fj).fX,(Da 2 m.fc.fj).fM):=by
 refine Qq.eq ?_
 show Ok (tC m) _
 unfold tC
 refine Ok.v (Po m h.fr) λr hr=>?_
 subst hr
 refine Ok.k ?_ (Ok.c (IN 2 1 _ m h.nw (by have:=h.sd;omega)) λr hr=>Ok.d ?_)
 ·rw[X5,h.rn];decide
 ·subst hr;rfl
theorem Cf{P:Program}{G:ze}{ρ:Type}{g:T P G ρ}{x:ρ}(h:Ok g (λr=>r=x)):g.run=some x:=by obtain⟨r,h1,rfl⟩:=h;exact h1
theorem Qqx{b:za}(h:b.size=32):((b.size:Int)==32)=true:=by rw[h];rfl
theorem Qza{b:za}(h:b.size≠32):((b.size:Int)==32)=false:=by simp;omega
theorem sZ(b:za)(m:Q9)(h:Vf m.fc)(hb:b.size<=4000):(rV b m).o=some (if b.size≠32 then .inr 5 else if ¬m.fc.fm < 7 then .inr 3 else .inl (3,m.fc.fm+1,WT 1 (m.fc.fq++T5 m.fc++b),[⟨1,m.fc.fm,m.fc.fq++T5 m.fc++b⟩],(Da 3 m.fc.fj).fF,(Da 3 m.fc.fj).fX,(Da 3 m.fc.fj).fM)):=by
 show (tL b m).run=_
 refine Cf ?_
 unfold tL
 by_cases hb:b.size=32
 rotate_left
 ·rw[if_pos hb];exact Ok.ZH (Qza hb) (Ok.d rfl)
 rw[if_neg (by simpa using hb)]
 refine Ok.Zn (Qqx hb) ?_
 by_cases hs:m.fc.fm < 7
 rotate_left
 ·rw[if_pos hs];exact Ok.ZH (wi hs) (Ok.d rfl)
 rw[if_neg (by simpa using hs)]
 refine Ok.Zn (zO hs) ?_
 have sd:=h.sd
 have hz:(m.fc.fq++T5 m.fc).size=64:=by rw[ByteArray.size_append,X5,h.rn]
 refine Ok.v (Po m h.fr) λr hr=>?_
 subst hr
 refine Ok.k (by rw[zA,X5,h.rn];omega) (Ok.k (by rw[zA];omega) (Ok.c (IN 3 1 _ ⟨m.fc,m.QZ,m.QL⟩ h.nw (show 0<=m.fc.fm/\m.fc.fm<=100 by omega)) λr hr=>?_))
 subst hr
 refine Ok.c (T6 ⟨1,m.fc.fm,m.fc.fq++T5 m.fc++b⟩ _ (show (m.fc.fq++T5 m.fc++b).size<=100000 by rw[ByteArray.size_append];omega) (show (0:Nat)<=100000 by decide)) λr hr=>Ok.d ?_
 subst hr
 rw[show ∀x:za,zd++x=x from λ_=>ByteArray.empty_append]
theorem Qhx(b:za)(m:Q9)(h:Vf m.fc):(Qz2 b m).o=some (if b.size≠32 then .inr (false,5) else if b≠R5 m.fc.fI Dx m.fc.fE then .inr (true,9) else .inl (m.fc.fE++WT 5 b,-1,0,0)):=by
 show (tI b m).run=_
 refine Cf ?_
 unfold tI
 by_cases hb:b.size=32
 rotate_left
 ·rw[if_pos hb];exact Ok.ZH (Qza hb) (Ok.d rfl)
 rw[if_neg (by simpa using hb)]
 refine Ok.Zn (Qqx hb) (Ok.v (DG m Dx m.fc.fE (by have:=h.ma;omega) (by decide) (by have:=h.td;omega)) λr hr=>?_)
 subst hr
 by_cases hc:b=R5 m.fc.fI Dx m.fc.fE
 ·rw[if_neg (by simpa using hc)]
  refine Ok.f (by rw[zO hc];rfl) (Ok.c (T6 ⟨5,0,b⟩ ⟨m.fc,m.QZ,m.QL⟩ (show b.size<=100000 by omega) (show m.fc.fE.size<=100000 by have:=h.td;omega)) λr hr=>Ok.c Le λr2 hr2=>Ok.d ?_)
  subst hr hr2;rfl
 ·rw[if_pos hc]
  exact Ok.t (by rw[wi hc];rfl) (Ok.o (r:=()) rfl (Ok.UD (Ok.d rfl)))
theorem Qqe(m:Q9)(h:Vf m.fc):(Qz3 m).o=some (bif !(JL m.fc.fA m.fc.fj).1 then .inl (m.fc.fA.fF,m.fc.fA.fX,m.fc.fA.fM,m.QL) else bif (NX m.fc.fA m.fc.fj).2 != 0 then .inr () else .inl ((NX m.fc.fA m.fc.fj).1.fF,(NX m.fc.fA m.fc.fj).1.fX,(NX m.fc.fA m.fc.fj).1.fM,m.fc.fo)):=by
 show (tS m).run=_
 refine Cf ?_
 unfold tS
 have e0:(JL m.fc.fA m.fc.fj).2=0:=by unfold JL;rw[h.tm,h.nw];rfl
 refine Ok.c (qV m.fc.fA m.fc.fj) λr hr=>?_
 subst hr
 rw[e0]
 refine Ok.c (xW _) λr hr=>?_
 subst hr
 refine Ok.e (λhc=>Ok.d (by rw[hc];rfl)) λhc=>?_
 rw[hc,cond_false]
 refine Ok.c (yZ m.fc.fA m.fc.fj) λr hr=>?_
 subst hr
 refine Ok.e (λhd=>?_) λhd=>Ok.d (by rw[hd];rfl)
 rw[hd,cond_true]
 exact Ok.o (r:=()) rfl (Ok.UD (Ok.d rfl))
def oM(s:Q2)(b:za):(Q2×List Z1)⊕(za×za×za×Bool×Int)->Prop
 | .inl r=>I1 s b=.inl r
 | .inr q=>I1 s b=.inr (q.2.2.2.1,q.q)
theorem oQ(b:za)(m:Q9)(h:Vf m.fc)(hb:b.size<=4000):Ok (tO b m) (oM m.fc b):=by
 have inl:∀r,I1 m.fc b=.inl r->oM m.fc b (.inl r):=λ_ h=>h
 have inr:∀q,I1 m.fc b=.inr (q.2.2.2.1,q.q)->oM m.fc b (.inr q):=λ_ h=>h
 generalize hQ:oM m.fc b=Q at *
 clear hQ
 unfold tO
 unfold I1 at inl inr
 by_cases h64:64 < b.size
 rotate_left
 ·rw[if_pos h64] at inr
  exact Ok.ZH (wi (by omega)) (Ok.d (inr _ rfl))
 rw[if_neg (by simpa using h64)] at inl inr
 have c2:(decide (0<=(64:Int))&&decide ((64:Int)<=(b.size:Int)))=true:=by simp;omega
 have c3:(decide (0<=(32:Int))&&decide ((32:Int)<=(b.size:Int)))=true:=by simp;omega
 have hx:(b.extract 64 b.size).size=b.size - 64:=by rw[ByteArray.size_extract];omega
 have z1:(b.extract 0 32).size=32:=by rw[ByteArray.size_extract];omega
 have z2:(b.extract 32 64).size=32:=by rw[ByteArray.size_extract];omega
 have e1:=Bc (b.extract 64 b.size) m (by omega)
 refine Ok.Zn (zO (by omega)) (Ok.k c2 ?_)
 cases ho:okB (b.extract 64 b.size) with
 | false=>
  rw[ho,if_pos rfl] at e1 inr
  exact Ok.QA e1 (Ok.d (inr _ rfl))
 | true=>
  rw[ho,if_neg (by decide)] at e1 inr inl
  generalize UR (Za (b.extract 64 b.size)) m.fc.fp m.fc.fj=acc at *
  by_cases ha:acc=0
  rotate_left
  ·rw[if_pos ha] at e1 inr
   exact Ok.QA e1 (Ok.d (inr _ rfl))
  rw[if_neg (by simpa using ha)] at e1 inr inl
  have hb2:=(Yl ho).2
  have kz:=(DN ho).1
  have f1:=DA m.fc.fQ (Za (b.extract 64 b.size)).fJ h.fr kz
  have f2:=DA m.fc.fV (b.extract 32 64) h.sc z2
  refine Ok.QS e1 (Ok.k c3 (Ok.k (by rw[c2];rfl) (Ok.k c2 ?_)))
  by_cases s1:xS m.fc.fQ (Za (b.extract 64 b.size)).fJ=US
  ·rw[if_pos (Or.inl s1)] at inr
   rw[if_pos s1] at f1
   exact Ok.QA f1 (Ok.d (inr _ rfl))
  rw[if_neg s1] at f1
  refine Ok.QS f1 ?_
  by_cases s2:xS m.fc.fV (b.extract 32 64)=US
  ·rw[if_pos (Or.inr s2)] at inr
   rw[if_pos s2] at f2
   exact Ok.QA f2 (Ok.d (inr _ rfl))
  rw[if_neg (λq=>q.elim s1 s2)] at inl
  rw[if_neg s2] at f2
  refine Ok.QS f2 ?_
  have td:=h.td
  have bz:=h.bz
  have sd:=h.sd
  have tz:(MO m.fc b).size<=600:=by unfold MO;rw[ByteArray.size_append,K1];omega
  have mz:(DH m.fc b).size=32:=Yk _ _ _
  refine Ok.c (SG _ _ _ _ _ (by rw[O1];decide) (by rw[O1];decide) (by rw[h.rn];decide) (by rw[z1];decide)) λr hr=>?_
  rw[show r=DH m.fc b from hr]
  clear hr
  refine Ok.c (T6 ⟨3,0,b⟩ _ (show b.size<=100000 by omega) (show m.fc.fE.size<=100000 by omega)) λr hr=>?_
  rw[show r=MO m.fc b from hr]
  clear hr
  have tz2:(MO m.fc b++m.fc.fe).size<=700:=by rw[ByteArray.size_append];omega
  refine Ok.k (by rw[zA];omega) (Ok.v (DG _ EY (MO m.fc b++m.fc.fe) (show (DH m.fc b).size<=100 by omega) (by decide) (by omega)) λr hr=>?_)
  rw[show r=R5 (DH m.fc b) EY (MO m.fc b++m.fc.fe) from hr]
  clear hr
  refine Ok.k (by rw[zA,N4];omega) (Ok.c (IN 5 4 (YY m.fc b) _ h.nw (show 0<=m.fc.fm/\m.fc.fm<=100 by omega)) λr hr=>?_)
  subst hr
  refine Ok.c (T6 ⟨4,m.fc.fm,YY m.fc b⟩ _ (show (YY m.fc b).size<=100000 by unfold YY;rw[ByteArray.size_append,N4];omega) (show (MO m.fc b).size<=100000 by omega)) λr hr=>Ok.d (inl _ ?_)
  rw[hr];rfl
def oU(s:Q2)(f b:za):(Q2×List Z1)⊕Int->Prop
 | .inl r=>C5 s f b=.inl r
 | .inr e=>C5 s f b=.inr (false,e)
theorem cF(b:za)(m:Q9)(h:Vf m.fc)(hf:m.QZ.size<=64):Ok (tA b m) (oU m.fc m.QZ b):=by
 have inl:∀r,C5 m.fc m.QZ b=.inl r->oU m.fc m.QZ b (.inl r):=λ_ h=>h
 have inr:∀e,C5 m.fc m.QZ b=.inr (false,e)->oU m.fc m.QZ b (.inr e):=λ_ h=>h
 generalize hQ:oU m.fc m.QZ b=Q at *
 clear hQ
 unfold tA
 unfold C5 at inl inr
 have td:=h.td
 have bz:=h.bz
 have sd:=h.sd
 have ck:=h.ck
 by_cases hz:b.size=64\/b.size=96
 rotate_left
 ·have n1:((b.size:Int)==64)=false:=by simp;omega
  have n2:((b.size:Int)==96)=false:=by simp;omega
  rw[if_pos ⟨λe=>hz (.inl e),λe=>hz (.inr e)⟩] at inr
  exact Ok.f n1 (Ok.ZH n2 (Ok.d (inr _ rfl)))
 rw[if_neg (λq=>hz.elim q.1 q.2)] at inl inr
 have c2:(decide (0<=(64:Int))&&decide ((64:Int)<=(b.size:Int)))=true:=by simp;omega
 have c3:(decide (0<=(32:Int))&&decide ((32:Int)<=(b.size:Int)))=true:=by simp;omega
 have z0:(b.extract 0 64).size=64:=by rw[ByteArray.size_extract];omega
 have zf:(m.QZ++b.extract 0 64).size<=128:=by rw[ByteArray.size_append];omega
 have om:=yJ m.fc.fT (m.QZ++b.extract 0 64) (by omega) (by omega)
 generalize hM:N2 m.fc.fT (m.QZ++b.extract 0 64)=M at *
 have zr:(m.fc.fq++T5 m.fc).size=64:=by rw[ByteArray.size_append,X5,h.rn]
 have zt:(Mc m.fc b).size<=600:=by unfold Mc;rw[ByteArray.size_append,K1];omega
 have zb:(Uo m.fc).size<=200:=by unfold Uo;rw[ByteArray.size_append];omega
 refine Ok.e (λ_=>Ok.Zn rfl ?_) λhn=>Ok.Zn (by simp at hn;simp;omega) ?_
 all_goals
  refine Ok.k c2 (Ok.k (by rw[zA];omega) (Ok.c om λr hr=>?_))
  subst hr
  refine Ok.c (Wm _) λr hr=>?_
  subst hr
  refine Ok.k c2 ?_
  by_cases hc:b.extract 64 b.size=r
  ·rw[if_neg (by simpa using hc)] at inl
   refine Ok.f (by rw[zO hc];rfl) (Ok.k c3 (Ok.k (by rw[c2];rfl) (Ok.c (T6 ⟨1,0,b⟩ _ (show b.size<=100000 by omega) (show m.fc.fE.size<=100000 by omega)) λr2 hr2=>?_)))
   rw[show r2=Mc m.fc b from hr2]
   clear hr2
   refine Ok.v (Po _ (show m.fc.fQ.size=32 from h.fr)) λp hp=>?_
   rw[show p=T5 m.fc from hp]
   clear hp
   refine Ok.k (by rw[zA,X5,h.rn];omega) (Ok.k (by rw[zA];omega) (Ok.c (IN 4 3 (Uo m.fc) _ h.nw (show 0<=m.fc.fm/\m.fc.fm<=100 by omega)) λq hq=>?_))
   subst hq
   refine Ok.c (T6 ⟨3,m.fc.fm,Uo m.fc⟩ _ (show (Uo m.fc).size<=100000 by omega) (show (Mc m.fc b).size<=100000 by omega)) λq hq=>Ok.d (inl _ ?_)
   rw[hq];rfl
  ·rw[if_pos hc] at inl inr
   refine Ok.t (by rw[wi hc];rfl) ?_
   by_cases hs:m.fc.fm < 6
   ·rw[if_neg (by simpa using hs)] at inl
    refine Ok.Zn (zO hs) (Ok.c (IN 1 2 r ⟨m.fc,m.QZ,m.QL⟩ h.nw (show 0<=m.fc.fm/\m.fc.fm<=100 by omega)) λq hq=>Ok.d (inl _ ?_))
    subst hq;rfl
   ·rw[if_pos hs] at inr
    exact Ok.ZH (wi hs) (Ok.d (inr _ rfl))
def oJ(s:Q2)(b:za):(Int×Int×za×za×za×List Z1×Int×Int×Int)⊕(za×Bool×Int)->Prop
 | .inl r=>G2 s b=.inl ({ s with fw:=r.1,fm:=r.2.1,fE:=r.2.2.1,fh:=⟨s.fh.fq,s.fh.fP,r.2.2.2.1⟩,fI:=r.q.1,fo:=r.q.2.1,fA:=⟨r.q.2.2.1,r.q.2.2.2.1,r.q.q⟩ },r.q.2.1)
 | .inr q=>G2 s b=.inr (q.2.1,q.2.2)
theorem sU(b:za)(m:Q9)(h:Vf m.fc)(hb:b.size<=4000)(hp:m.fc.fh.fP.size=32):Ok (tX b m) (oJ m.fc b):=by
 have inl:∀r,G2 m.fc b=.inl ({ m.fc with fw:=r.1,fm:=r.2.1,fE:=r.2.2.1,fh:=⟨m.fc.fh.fq,m.fc.fh.fP,r.2.2.2.1⟩,fI:=r.q.1,fo:=r.q.2.1,fA:=⟨r.q.2.2.1,r.q.2.2.2.1,r.q.q⟩ },r.q.2.1)->oJ m.fc b (.inl r):=λ_ h=>h
 have inr:∀q,G2 m.fc b=.inr (q.2.1,q.2.2)->oJ m.fc b (.inr q):=λ_ h=>h
 generalize hQ:oJ m.fc b=Q at *
 clear hQ
 unfold tX
 unfold G2 at inl inr
 by_cases h64:32 < b.size
 rotate_left
 ·rw[if_pos h64] at inr
  exact Ok.ZH (wi (by omega)) (Ok.d (inr _ rfl))
 rw[if_neg (by simpa using h64)] at inl inr
 have c3:(decide (0<=(32:Int))&&decide ((32:Int)<=(b.size:Int)))=true:=by simp;omega
 have hx:(b.extract 32 b.size).size=b.size - 32:=by rw[ByteArray.size_extract];omega
 have e1:=Bc (b.extract 32 b.size) m (by omega)
 refine Ok.Zn (zO (by omega)) (Ok.k c3 (Ok.k c3 ?_))
 cases ho:okB (b.extract 32 b.size) with
 | false=>
  rw[ho,if_pos rfl] at e1 inr
  exact Ok.QA e1 (Ok.d (inr _ rfl))
 | true=>
  rw[ho,if_neg (by decide)] at e1 inr inl
  generalize UR (Za (b.extract 32 b.size)) m.fc.fp m.fc.fj=acc at *
  by_cases ha:acc=0
  rotate_left
  ·rw[if_pos ha] at e1 inr
   exact Ok.QA e1 (Ok.d (inr _ rfl))
  rw[if_neg (by simpa using ha)] at e1 inr inl
  have hb2:=(Yl ho).2
  have kz:=(DN ho).1
  have f1:=DA m.fc.fV m.fc.fh.fP h.sc hp
  have f2:=DA m.fc.fQ (Za (b.extract 32 b.size)).fJ h.fr kz
  refine Ok.QS e1 ?_
  by_cases s1:xS m.fc.fV m.fc.fh.fP=US
  ·rw[if_pos (Or.inl s1)] at inr
   rw[if_pos s1] at f1
   exact Ok.QA f1 (Ok.d (inr _ rfl))
  rw[if_neg s1] at f1
  refine Ok.QS f1 ?_
  by_cases s2:xS m.fc.fQ (Za (b.extract 32 b.size)).fJ=US
  ·rw[if_pos (Or.inr s2)] at inr
   rw[if_pos s2] at f2
   exact Ok.QA f2 (Ok.d (inr _ rfl))
  rw[if_neg (λq=>q.elim s1 s2)] at inl inr
  rw[if_neg s2] at f2
  refine Ok.QS f2 ?_
  have td:=h.td
  have bz:=h.bz
  have sd:=h.sd
  have pr:=h.pp.2
  have mz:(WH m.fc b).size=32:=Yk _ _ _
  refine Ok.c (SG _ _ _ _ _ (by rw[O1];decide) (by rw[O1];decide) (by omega) (by rw[h.rn];decide)) λr hr=>?_
  rw[show r=WH m.fc b from hr]
  clear hr
  have tz0:(m.fc.fE++b.extract 32 b.size).size<=1000:=by rw[ByteArray.size_append];omega
  refine Ok.k (by rw[zA];omega) (Ok.v (DG _ EY (m.fc.fE++b.extract 32 b.size) (show (WH m.fc b).size<=100 by omega) (by decide) (by omega)) λr hr=>?_)
  have hr:r=R5 (WH m.fc b) EY (m.fc.fE++b.extract 32 b.size):=hr
  rw[<-hr] at inl inr
  clear hr
  by_cases hc:b.extract 0 32=r
  rotate_left
  ·rw[if_pos hc] at inr
   exact Ok.t (by rw[wi hc];rfl) (Ok.o (r:=()) rfl (Ok.UD (Ok.d (inr _ rfl))))
  rw[if_neg (by simpa using hc)] at inl
  refine Ok.f (by rw[zO hc];rfl) (Ok.c (T6 ⟨4,0,b⟩ _ (show b.size<=100000 by omega) (show m.fc.fE.size<=100000 by omega)) λt ht=>?_)
  rw[show t=WU m.fc b from ht]
  clear ht
  have tz:(WU m.fc b).size<=1000:=by unfold WU;rw[ByteArray.size_append,K1];omega
  have zc:(Jv m.fc b).size=32:=N4 _ _ _
  refine Ok.v (DG _ Dx (WU m.fc b) (show (WH m.fc b).size<=100 by omega) (by decide) (by omega)) λc hc=>?_
  rw[show c=Jv m.fc b from hc]
  clear hc
  refine Ok.c (IN 6 5 (Jv m.fc b) _ h.nw (show 0<=m.fc.fm/\m.fc.fm<=100 by omega)) λq hq=>?_
  subst hq
  refine Ok.c (T6 ⟨5,m.fc.fm,Jv m.fc b⟩ _ (show (Jv m.fc b).size<=100000 by omega) (show (WU m.fc b).size<=100000 by omega)) λq hq=>Ok.d (inl _ ?_)
  rw[hq];rfl
def oH(s:Q2)(f:za)(n:Z1):(Q2×List Z1)⊕(za×za×za×za×Bool×Int)->Prop
 | .inl r=>H4 s f n=.inl r
 | .inr q=>H4 s f n=.inr (q.q.1,q.q.2)
theorem MV{p:Q9}{n:Z1}{f:FuncId}{a b c:Int}{x0 h0 hk hf}(h:Ir p.fc.fB p.fc.fw n.ft [QJ a,QJ b,QJ c]=true):(EO p n f a b c x0 h0 hk hf).o=some ():=by
 grind [EO]
theorem iW(n:Z1)(m:Q9)(h:Vf m.fc)(hf:m.QZ.size<=64)(hn:n.fk.size<=4000)(hs:m.QL=[]):Ok (tB n m) (oH m.fc m.QZ n):=by
 have inl:∀r,H4 m.fc m.QZ n=.inl r->oH m.fc m.QZ n (.inl r):=λ_ h=>h
 have inr:∀q,H4 m.fc m.QZ n=.inr (q.q.1,q.q.2)->oH m.fc m.QZ n (.inr q):=λ_ h=>h
 generalize hQ:oH m.fc m.QZ n=Q at *
 clear hQ
 unfold tB
 have q3:∀{a b c:Int} {r:Bool},Ir m.fc.fB m.fc.fw n.ft [QJ a,QJ b,QJ c]=r->(r=true->m.fc.fB=a/\m.fc.fw=b/\n.ft=c)/\(r=false->¬(m.fc.fB=a/\m.fc.fw=b/\n.ft=c)):=(by grind [LA])
 have rP:=sZ n.fk m h hn
 refine Ok.e (λh0=>?_) λh0=>Ok.e (λh1=>?_) λh1=>Ok.e (λh2=>?_) λh2=>Ok.e (λh3=>?_) λh3=>Ok.e (λh4=>?_) λh4=>Ok.e (λh5=>?_) λh5=>?_
 ·obtain⟨a,b,c⟩:=(q3 h0).1 rfl
  have e:H4 m.fc m.QZ n=Yo m.fc n.fk:=by simp_all [if_pos,H4]
  rw[e] at inl inr
  unfold Yo at inl inr
  refine Ok.t rfl (Ok.AB (r:=()) (MV h0) (Ok.Zn rfl ?_))
  by_cases z:n.fk.size≠32
  ·rw[if_pos z] at rP inr;exact Ok.QA rP (Ok.d (inr _ rfl))
  rw[if_neg z] at rP inr inl
  by_cases z2:¬m.fc.fm < 7
  ·rw[if_pos z2] at rP inr;exact Ok.QA rP (Ok.d (inr _ rfl))
  rw[if_neg z2] at rP inr inl
  exact Ok.QS rP (Ok.d (inl _ rfl))
 ·obtain⟨a,b,c⟩:=(q3 h1).1 rfl
  have e:H4 m.fc m.QZ n=Yo m.fc n.fk:=by simp_all [if_pos,H4]
  rw[e] at inl inr
  unfold Yo at inl inr
  refine Ok.t rfl (Ok.AB (r:=()) (MV h1) (Ok.Zn rfl ?_))
  by_cases z:n.fk.size≠32
  ·rw[if_pos z] at rP inr;exact Ok.QA rP (Ok.d (inr _ rfl))
  rw[if_neg z] at rP inr inl
  by_cases z2:¬m.fc.fm < 7
  ·rw[if_pos z2] at rP inr;exact Ok.QA rP (Ok.d (inr _ rfl))
  rw[if_neg z2] at rP inr inl
  exact Ok.QS rP (Ok.d (inl _ rfl))
 ·obtain⟨a,b,c⟩:=(q3 h2).1 rfl
  have e:H4 m.fc m.QZ n=I1 m.fc n.fk:=by
   simp_all [if_neg,if_pos,H4]
  rw[e] at inl inr
  refine Ok.t rfl (Ok.AB (r:=()) (MV h2) (Ok.Zn rfl ?_))
  obtain⟨x,x1,x2⟩:=oQ n.fk m h hn
  cases x with
  | inl r=>exact Ok.QS (show (rT n.fk m).o=_ from x1) (Ok.d (inl _ x2))
  | inr r=>exact Ok.QA (show (rT n.fk m).o=_ from x1) (Ok.d (inr _ x2))
 ·obtain⟨a,b,c⟩:=(q3 h3).1 rfl
  have e:H4 m.fc m.QZ n=UL m.fc n.fk:=by
   simp_all [if_neg,if_pos,H4]
  rw[e] at inl inr
  unfold UL at inl inr
  refine Ok.t rfl (Ok.AB (r:=()) (MV h3) (Ok.Zn rfl ?_))
  have dP:=Qhx n.fk m h
  by_cases z:n.fk.size≠32
  ·rw[if_pos z] at dP inr;exact Ok.QA dP (Ok.d (inr _ rfl))
  rw[if_neg z] at dP inr inl
  by_cases z2:n.fk≠R5 m.fc.fI Dx m.fc.fE
  ·rw[if_pos z2] at dP inr;exact Ok.QA dP (Ok.d (inr _ rfl))
  rw[if_neg z2] at dP inr inl
  exact Ok.QS dP (Ok.g (Ok.d (inl _ (by rw[hs];rfl))))
 ·obtain⟨a,b,c⟩:=(q3 h4).1 rfl
  have e:H4 m.fc m.QZ n=C5 m.fc m.QZ n.fk:=by
   simp_all [if_neg,if_pos,H4]
  rw[e] at inl inr
  refine Ok.t rfl (Ok.AB (r:=()) (MV h4) (Ok.Zn rfl ?_))
  obtain⟨x,x1,x2⟩:=cF n.fk m h hf
  cases x with
  | inl r=>exact Ok.QS (show (rC n.fk m).o=_ from x1) (Ok.d (inl _ x2))
  | inr r=>exact Ok.QA (show (rC n.fk m).o=_ from x1) (Ok.d (inr _ x2))
 ·obtain⟨a,b,c⟩:=(q3 h5).1 rfl
  have e:H4 m.fc m.QZ n=G2 m.fc n.fk:=by
   simp_all [if_neg,if_pos,H4]
  rw[e] at inl inr
  refine Ok.t rfl (Ok.AB (r:=()) (MV h5) (Ok.Zn rfl ?_))
  obtain⟨x,x1,x2⟩:=sU n.fk m h hn (h.lk a b)
  cases x with
  | inl r=>exact Ok.QS (show (rB n.fk m).o=_ from x1) (Ok.d (inl _ x2))
  | inr r=>exact Ok.QA (show (rB n.fk m).o=_ from x1) (Ok.d (inr _ x2))
 ·have n0:=(q3 h0).2 rfl
  have n1:=(q3 h1).2 rfl
  have n2:=(q3 h2).2 rfl
  have n3:=(q3 h3).2 rfl
  have n4:=(q3 h4).2 rfl
  have n5:=(q3 h5).2 rfl
  have e:H4 m.fc m.QZ n=.inr (false,8):=by
   unfold H4;grind
  rw[e] at inl inr
  refine Ok.t rfl (Ok.AB (r:=()) ?_ (Ok.ZH rfl (Ok.d (inr _ rfl))))
  grind [Vw,Ir,X0]
def EvR(s:Q2)(v:Q8):(Q2×List Z1)⊕(za×za×za×za×Bool×Int)->Prop
 | .inl r=>Er s v=.inl r
 | .inr q=>Er s v=.inr (q.q.1,q.q.2)
theorem Qea(v:Q8)(m:Q9)(h:Vf m.fc)(hf:m.QZ=v.fG)(hf2:v.fG.size<=64)(hn:v.ft=2->v.fR.fk.size<=4000)(hs:m.QL=[])(hk:1<=v.ft/\v.ft<=4):Ok (jI m v) (EvR m.fc v):=by
 have inl:∀r,Er m.fc v=.inl r->EvR m.fc v (.inl r):=λ_ h=>h
 have inr:∀q,Er m.fc v=.inr (q.q.1,q.q.2)->EvR m.fc v (.inr q):=λ_ h=>h
 generalize hQ:EvR m.fc v=Q at *
 clear hQ
 unfold jI
 unfold Er at inl inr
 refine Ok.e (λh1=>?_) λh1=>?_
 ·rw[if_pos (by simpa using h1)] at inl inr
  unfold Xn at inl inr
  refine Ok.e (λh2=>?_) λh2=>?_
  ·rw[h2,Bool.true_and] at inl inr
   cases h3:(m.fc.fw==1) with
   | true=>
    rw[h3,cond_true] at inl
    exact Ok.Zn rfl (Ok.c (Qq.o (eJ m h)) λr hr=>Ok.d (inl _ (by rw[hr];rfl)))
   | false=>
    rw[h3,cond_false] at inr
    exact Ok.ZH rfl (Ok.d (inr _ rfl))
  ·rw[h2,Bool.false_and,cond_false] at inr
   exact Ok.ZH rfl (Ok.d (inr _ rfl))
 rw[if_neg (by simpa using h1)] at inl inr
 refine Ok.e (λh2=>?_) λh2=>?_
 ·have h2:v.ft=2:=by simpa using h2
  rw[if_pos h2] at inl inr
  obtain⟨x,x1,x2⟩:=iW v.fR m h (by rw[hf];exact hf2) (hn h2) hs
  rw[hf] at x2
  cases x with
  | inl r=>exact Ok.QS (show (pB v.fR m).o=_ from x1) (Ok.d (inl _ x2))
  | inr r=>exact Ok.QA (show (pB v.fR m).o=_ from x1) (Ok.d (inr _ x2))
 rw[if_neg (by simpa using h2)] at inl inr
 refine Ok.e (λh3=>?_) λh3=>?_
 ·rw[if_pos (by simpa using h3)] at inl inr
  have tP:=Qqe m h
  unfold FL at inl inr
  cases hd:(!(JL m.fc.fA m.fc.fj).1) with
  | true=>
   simp_all [cond_true,Ok.QS,Ok.d]
  | false=>
   rw[hd,cond_false] at tP inl inr
   cases ha:((NX m.fc.fA m.fc.fj).2 != 0) with
   | true=>
    rw[ha,cond_true] at tP inr
    exact Ok.QA tP (Ok.d (inr _ rfl))
   | false=>
    rw[ha,cond_false] at tP inl
    exact Ok.QS tP (Ok.d (inl _ rfl))
 rw[if_neg (by simpa using h3)] at inl inr
 grind [Ok.t,Ok.e,Ok.d]
theorem Qh8(e:Int)(m:Q9):(iK m e).run=some (-1,0,0):=by
 have h1:(Qz5 e m).o=some (-1,0,0):=by
  refine Qq.eq ?_
  show Ok (tT e m) _
  unfold tT
  exact Ok.c Le λr hr=>Ok.d (by rw[hr];rfl)
 refine Cf ?_
 unfold iK
 exact Ok.o (r:=()) rfl (Ok.ff (Ok.o (r:=()) rfl (Ok.tt (Ok.c (Qq.o h1) λr hr=>Ok.g (Ok.d hr)))))
theorem vH(v:Q8)(s:Q2)(h:Vf s)(hf2:v.fG.size<=64)(hn:v.ft=2->v.fR.fk.size<=4000)(hk:1<=v.ft/\v.ft<=4) :
  vW ⟨s,v.fG,[]⟩ v=some (match Er s v with|.inl r=>.inl ⟨r.1,v.fG,r.2⟩|.inr (true,e)=>.inl ⟨Bo s e,v.fG,[]⟩|.inr (false,e)=>.inr e):=by
 obtain⟨x,x1,x2⟩:=Qea v ⟨s,v.fG,[]⟩ h rfl hf2 hn rfl hk
 unfold vW
 rw[x1]
 cases x with
 | inl r=>
  rw[show Er s v=.inl r from x2];rfl
 | inr q=>
  obtain⟨q1,q2,q3,q4,q5,q6⟩:=q
  rw[show Er s v=.inr (q5,q6) from x2]
  cases q5 with
  | true=>
   simp only[cond_true,Qh8]
   rfl
  | false=>rfl
theorem GK(l:List za)(h:l.length<=100000):(s60 l).o=some ():=by
 show (g60 l).run=_
 refine Cf ?_
 unfold g60
 exact Ok.app (by grind) (Ok.d rfl)
theorem HQ(l:List Z1)(h:l.length<=100000):(s61 l).o=some ():=by
 show (g61 l).run=_
 refine Cf ?_
 unfold g61
 exact Ok.app (by grind) (Ok.d rfl)
def Qqp:(Q2×List Z1)⊕(Bool×Int)->Q2×List Z1×Int
 | .inl r=>Vi r
 | .inr r=>(BP,[],r.2)
theorem Vf.at{s:Q2}(h:Vf s){n:Int}(hn:N0 n=true):Vf { s with fj:=n }:=⟨hn,h.sc,h.fr,h.rn,h.ck,h.bd,h.bz,h.pl,h.ps,h.sd,h.td,h.tm,h.pb,h.pp,h.ma,h.ll,h.lk⟩
theorem Qhu(s:Q2)(v:Q8)(h:s.fo.length<=1):∀r,Er s v=.inl r->r.2.length<=1:=by
 intro r hr
 have sh:∀(x:Out),(∀q,x=.inl q->q.2.length<=1)->x=.inl r->r.2.length<=1:=λx hx he=>hx r he
 unfold Er at hr
 split at hr
 ·unfold Xn at hr
  cases hc:(s.fB==1&&s.fw==1)<;>rw[hc] at hr<;>simp at hr
  rw[<-hr];simp
 split at hr
 ·unfold H4 at hr
  split at hr
  ·unfold Yo at hr
   (repeat' split at hr)<;>simp at hr
   rw[<-hr];simp
  split at hr
  ·unfold I1 at hr
   (repeat' split at hr)<;>simp at hr
   rw[<-hr];simp
  split at hr
  ·unfold UL at hr
   (repeat' split at hr)<;>simp at hr
   rw[<-hr];simp
  split at hr
  ·unfold C5 at hr
   (repeat' split at hr)<;>simp at hr<;>(rw[<-hr];simp)
  split at hr
  ·unfold G2 at hr
   (repeat' split at hr)<;>simp at hr
   rw[<-hr];simp
  ·simp at hr
 split at hr
 ·unfold FL at hr
  cases hc:(!(JL s.fA s.fj).1)<;>rw[hc] at hr
  ·rw[cond_false] at hr
   cases hd:((NX s.fA s.fj).2 != 0)<;>rw[hd] at hr<;>simp at hr
   rw[<-hr];exact h
  ·simp at hr
   rw[<-hr];simp
 ·simp at hr
  rw[<-hr]
  cases (s.fB==2)
  ·simp
  ·exact h
theorem YE(s:Q2)(v:Q8)(hs:Sm s):Qq (eR s v) (λr=>r=D8 s v):=by
 have key:Ok (jA s v) (λq=>Qqp q=D8 s v):=by
  unfold jA
  refine Ok.c (Mo s hs) λr hr=>?_
  subst hr
  unfold D8
  cases hv:QB s with
  | false=>exact Ok.ZH rfl (Ok.d rfl)
  | true=>
   refine Ok.Zn rfl ?_
   rw[cond_true]
   have vf:=Ya hv
   unfold iF
   refine Ok.e (λc1=>?_) λc1=>Ok.ZH rfl (Ok.d (by rw[c1];rfl))
   refine Ok.e (λc2=>?_) λc2=>Ok.ZH rfl (Ok.d (by rw[c1,c2];rfl))
   refine Ok.e (λc3=>?_) λc3=>Ok.ZH rfl (Ok.d (by rw[c1,c2,c3];rfl))
   refine Ok.e (λc4=>?_) λc4=>Ok.ZH rfl (Ok.d (by rw[c1,c2,c3,c4];rfl))
   cases c5:decide ((v.fG.size:Int)<=64) with
   | false=>exact Ok.ZH rfl (Ok.d (by rw[c1,c2,c3,c4];rfl))
   | true=>
    rw[c1,c2,c3,c4]
    simp only[Bool.true_and]
    refine Ok.Zn rfl ?_
    have hnw:N0 v.fj=true:=by
     have:=vf.nw
     unfold N0 at this ⊢
     simp only[zD,zA] at this c3 c4 ⊢
     omega
    have vf2:=vf.at hnw
    have hf2:v.fG.size<=64:=by simp at c5;omega
    have hk:1<=v.ft/\v.ft<=4:=by simp at c1 c2;exact⟨c1,c2⟩
    have e1:=GK s.fp (by have:=vf.pl;omega)
    have e2:=HQ s.fo (by have:=vf.ll;omega)
    have e3:Qq (s59 v.fG) (λr=>r=v.fG):=by
     show Ok (g59 v.fG) _
     unfold g59
     exact Ok.c (R:=λ_=>True) (show Ok (jB _) _ from Ok.k (by rw[zA];omega) (Ok.d trivial)) λ_ _=>Ok.d rfl
    have evl:=Qhu { s with fj:=v.fj } v vf.ll
    have eve:∀(hn:v.ft=2->v.fR.fk.size<=4000),(nW v ⟨{ s with fj:=v.fj },v.fG,[]⟩).o=some (match Er { s with fj:=v.fj } v with|.inl r=>.inl ⟨r.1,v.fG,r.2⟩|.inr (true,e)=>.inl ⟨Bo { s with fj:=v.fj } e,v.fG,[]⟩|.inr (false,e)=>.inr e):=λhn=>vH v { s with fj:=v.fj } vf2 hf2 hn hk
    generalize hE:Er { s with fj:=v.fj } v=E at *
    refine Ok.e (λc6=>?_) λc6=>?_
    ·have k2:v.ft≠2:=by simpa using c6
     have eve:=eve λh=>absurd h k2
     refine Ok.Zn rfl (Ok.c e3 λr hr=>?_)
     subst hr
     refine Ok.c (Qq.o e1) λ_ _=>Ok.c (Qq.o e2) λ_ _=>Ok.g (Ok.g (Ok.g ?_))
     rw[c6,Bool.true_or,cond_true]
     match E,eve,evl with
     | .inl r,eve,evl=>exact Ok.QS eve (Ok.c (Qq.o (HQ r.2 (by have:=evl r rfl;omega))) λ_ _=>Ok.g (Ok.d rfl))
     | .inr (true,e),eve,evl=>exact Ok.QS eve (Ok.c (Qq.o (HQ [] (by simp))) λ_ _=>Ok.g (Ok.d rfl))
     | .inr (false,e),eve,evl=>exact Ok.QA eve (Ok.d rfl)
    ·refine Ok.c (GH v.fR) λr hr=>?_
     rw[c6,Bool.false_or]
     cases hn:P7 v.fR with
     | false=>
      rw[hn] at hr
      subst hr
      exact Ok.ZH rfl (Ok.d rfl)
     | true=>
      rw[hn] at hr
      subst hr
      have eve:=eve λ_=>by
       unfold P7 at hn
       simp only[zD,zA] at hn
       omega
      refine Ok.Zn rfl (Ok.c e3 λr hr=>?_)
      subst hr
      refine Ok.c (Qq.o e1) λ_ _=>Ok.c (Qq.o e2) λ_ _=>Ok.g (Ok.g (Ok.g ?_))
      rw[cond_true]
      match E,eve,evl with
      | .inl r,eve,evl=>exact Ok.QS eve (Ok.c (Qq.o (HQ r.2 (by have:=evl r rfl;omega))) λ_ _=>Ok.g (Ok.d rfl))
      | .inr (true,e),eve,evl=>exact Ok.QS eve (Ok.c (Qq.o (HQ [] (by simp))) λ_ _=>Ok.g (Ok.d rfl))
      | .inr (false,e),eve,evl=>exact Ok.QA eve (Ok.d rfl)
 obtain⟨q,h1,h2⟩:=key
 refine⟨D8 s v,?_,rfl⟩
 show stM s v=_
 unfold stM
 rw[h1,<-h2]
 cases q<;>rfl
theorem Pk(t:Y9)(ht:WZ t)(s:Q2)(f:za)(n:Z1)(h:Vf s)(g:Vg s)(hf:f.size<=64)(hn:n.fk.size<=4000):Qq (s76 t s f n) (λr=>r=MY s (H4 s f n)):=by
 unfold s76
 refine Qq.fn ?_
 unfold g76
 have sd:=g.sd
 refine Ok.n (R:=λc=>c=decide (s.fB=1/\(s.fw=2\/s.fw=3)/\n.ft=2)) ?_ λc hc=>?_
 ·refine Ok.e (λh1=>Ok.e (λh2=>Ok.e (λh3=>Ok.d ?_) λh3=>Ok.d ?_) λh2=>Ok.d ?_) λh1=>Ok.d ?_
  all_goals (rw[Bool.eq_iff_iff];simp at *;omega)
 subst hc
 by_cases q0:s.fB=1/\(s.fw=2\/s.fw=3)/\n.ft=2
 ·have e:H4 s f n=Yo s n.fk:=by unfold H4;rw[if_pos q0]
  rw[e]
  exact Ok.t (zO q0) (Ok.c (Ll s n h hn (g.s7 q0.2.1)) λr hr=>Ok.d hr)
 refine Ok.f (wi q0) (Ok.n (R:=λc=>c=decide (s.fB=1/\s.fw=3/\n.ft=3)) ?_ λc hc=>?_)
 ·refine Ok.e (λh1=>Ok.e (λh2=>Ok.d ?_) λh2=>Ok.d ?_) λh1=>Ok.d ?_
  all_goals (rw[Bool.eq_iff_iff];simp at *;omega)
 subst hc
 by_cases q1:s.fB=1/\s.fw=3/\n.ft=3
 ·have e:H4 s f n=I1 s n.fk:=by unfold H4;rw[if_neg q0,if_pos q1]
  rw[e]
  exact Ok.t (zO q1) (Ok.c (Ia t ht s n h hn q1.2.2) λr hr=>Ok.d hr)
 refine Ok.f (wi q1) (Ok.n (R:=λc=>c=decide (s.fB=1/\s.fw=5/\n.ft=5)) ?_ λc hc=>?_)
 ·refine Ok.e (λh1=>Ok.e (λh2=>Ok.d ?_) λh2=>Ok.d ?_) λh1=>Ok.d ?_
  all_goals (rw[Bool.eq_iff_iff];simp at *;omega)
 subst hc
 by_cases q2:s.fB=1/\s.fw=5/\n.ft=5
 ·have e:H4 s f n=UL s n.fk:=by unfold H4;rw[if_neg q0,if_neg q1,if_pos q2]
  rw[e]
  exact Ok.t (zO q2) (Ok.c (Ct t ht s n h) λr hr=>Ok.d (hr.resolve_right λx=>x q2.2.2))
 refine Ok.f (wi q2) (Ok.n (R:=λc=>c=decide (s.fB=2/\s.fw=1/\n.ft=1)) ?_ λc hc=>?_)
 ·refine Ok.e (λh1=>Ok.e (λh2=>Ok.d ?_) λh2=>Ok.d ?_) λh1=>Ok.d ?_
  all_goals (rw[Bool.eq_iff_iff];simp at *;omega)
 subst hc
 by_cases q3:s.fB=2/\s.fw=1/\n.ft=1
 ·have e:H4 s f n=C5 s f n.fk:=by unfold H4;rw[if_neg q0,if_neg q1,if_neg q2,if_pos q3]
  rw[e]
  exact Ok.t (zO q3) (Ok.c (Lf t ht s f n h hf q3.2.2 (g.s6 q3.1 q3.2.1)) λr hr=>Ok.d hr)
 refine Ok.f (wi q3) (Ok.n (R:=λc=>c=decide (s.fB=2/\s.fw=4/\n.ft=4)) ?_ λc hc=>?_)
 ·refine Ok.e (λh1=>Ok.e (λh2=>Ok.d ?_) λh2=>Ok.d ?_) λh1=>Ok.d ?_
  all_goals (rw[Bool.eq_iff_iff];simp at *;omega)
 subst hc
 by_cases q4:s.fB=2/\s.fw=4/\n.ft=4
 ·have e:H4 s f n=G2 s n.fk:=by unfold H4;rw[if_neg q0,if_neg q1,if_neg q2,if_neg q3,if_pos q4]
  rw[e]
  exact Ok.t (zO q4) (Ok.c (Gc t ht s n h hn q4.2.2 (h.lk q4.1 q4.2.1)) λr hr=>Ok.d hr)
 have e:H4 s f n=.inr (false,8):=by unfold H4;rw[if_neg q0,if_neg q1,if_neg q2,if_neg q3,if_neg q4]
 rw[e]
 exact Ok.f (wi q4) (Ok.d rfl)
theorem vT{t:Z8}{now:Int}(h:Uu t=true)(hn:N0 now=true)(hd:(JL t now).1=true):((NX t now).2==4)=((NX t now).2 != 0):=by
 have e:(JL t now).2=0:=by unfold JL;rw[h,hn];rfl
 unfold NX
 rw[e,hd]
 show ((bif t.fM==8 then (stZ,(4:Int)) else _).2==4)=_
 cases (t.fM==8)<;>rfl
theorem Vg.at{s:Q2}(h:Vg s)(n:Int):Vg { s with fj:=n }:=⟨h.sd,h.s7,h.s6⟩
theorem Ex(t:Y9)(ht:WZ t)(s:Q2)(v:Q8)(hs:Sm s):Qq (s37 t s v) (λr=>r=D8 s v):=by
 unfold s37
 refine Qq.fn ?_
 unfold g37 D8
 refine Ok.c (Ue s hs) λr hr=>?_
 subst hr
 cases hv:QB s with
 | false=>exact Ok.t rfl (Ok.d rfl)
 | true=>
  refine Ok.f rfl ?_
  rw[cond_true]
  have vf:=Ya hv
  have vg:=(nU hv).at v.fj
  have nw:=vf.nw
  refine Ok.n (R:=λc=>c=!iF s v) ?_ λc hc=>?_
  ·refine Ok.c (Pm v) λr hr=>?_
   subst hr
   have e0:decide (v.fj < s.fj)=!decide (s.fj<=v.fj):=Pc _ _
   rw[e0]
   unfold N0 at nw
   simp only[zD,zA] at nw
   unfold iF
   cases c1:decide (s.fj<=v.fj) with
   | true=>
    rw[zO (show 0<=v.fj by simp at c1;omega)]
    refine Ok.e (λh=>Ok.d ?_) λh=>Ok.d ?_
    ·exact h.symm
    ·exact h.symm
   | false=>
    refine Ok.e (λh=>Ok.d ?_) λh=>Ok.d ?_<;>simp
  subst hc
  cases he:iF s v with
  | false=>exact Ok.t rfl (Ok.d rfl)
  | true=>
   refine Ok.f rfl ?_
   rw[cond_true]
   unfold iF at he
   simp only[zD,zA] at he
   obtain⟨k1,k2,k3,k4,k5,k6⟩:=he
   have hnw:N0 v.fj=true:=by
    unfold N0 at nw ⊢
    simp only[zD,zA] at nw ⊢
    omega
   have vf2:=vf.at hnw
   unfold Er
   refine Ok.e (λh1=>?_) λh1=>?_
   ·rw[if_pos (by simpa using h1)]
    unfold Xn
    refine Ok.n (R:=λc=>c=!(s.fB==1&&s.fw==1)) ?_ λc hc=>?_
    ·refine Ok.e (λh=>Ok.d ?_) λh=>Ok.d ?_
     all_goals (rw[Bool.eq_iff_iff];simp at *;omega)
    subst hc
    cases hb:(s.fB==1&&s.fw==1) with
    | false=>exact Ok.t rfl (Ok.d rfl)
    | true=>
     refine Ok.f rfl (Ok.c (Ht _ (show s.fQ.size=32 from vf.fr)) λp hp=>?_)
     subst hp
     refine Ok.k (by rw[zA,X5,vf.rn];decide) (Ok.c (JH _ 2 1 _ hnw (show 0<=s.fm/\s.fm<=100 by have:=vf.sd;omega) (by decide)) λq hq=>Ok.d ?_)
     subst hq;rfl
   rw[if_neg (by simpa using h1)]
   refine Ok.e (λh2=>?_) λh2=>?_
   ·have h2:v.ft=2:=by simpa using h2
    rw[if_pos h2]
    have hn:v.fR.fk.size<=4000:=by
     rw[h2] at k6
     have k6:P7 v.fR=true:=k6
     unfold P7 at k6
     simp only[zD,zA] at k6
     omega
    exact Ok.c (Pk t ht { s with fj:=v.fj } v.fG v.fR vf2 vg (by omega) hn) λr hr=>Ok.d hr
   rw[if_neg (by simpa using h2)]
   refine Ok.e (λh3=>?_) λh3=>?_
   ·rw[if_pos (by simpa using h3)]
    unfold FL
    refine Ok.c (GZ _ _) λr hr=>?_
    subst hr
    cases hd:(JL s.fA v.fj).1 with
    | false=>
     exact Ok.t rfl (Ok.d rfl)
    | true=>
     refine Ok.f rfl (Ok.c (Px _ _) λr hr=>?_)
     subst hr
     have av:=vT vf.tm hnw hd
     show Ok _ (λr=>r=MY _ (bif (NX s.fA v.fj).2 != 0 then _ else .inl ({ s with fj:=v.fj,fA:=(NX s.fA v.fj).1 },s.fo)))
     rw[<-av]
     refine Ok.e (λh=>?_) λh=>?_
     ·rw[h]
      exact Ok.c (C1 _ 6) λr hr=>Ok.d (by rw[hr];rfl)
     ·rw[h]
      exact Ok.d rfl
   rw[if_neg (by simpa using h3)]
   refine Ok.e (λh4=>Ok.d ?_) λh4=>Ok.d ?_
   ·show _=MY _ (.inl (_,bif s.fB==2 then _ else _))
    rw[h4];rfl
   ·show _=MY _ (.inl (_,bif s.fB==2 then _ else _))
    rw[h4];rfl
def Dc(side:Int)(sec bdg fr rn ck:za)(ps:List za)(now:Int):Q2:=⟨side,1,now,sec,bdg,fr,rn,ck,ps,0,zd,⟨zd,zd,zd⟩,zd,[],nY,0⟩
def GX(side:Int)(sec bdg fr rn ck:za)(ps:List za)(now:Int):Q2×Int:=
 bif QB (Dc side sec bdg fr rn ck ps now) then bif decide ((Za bdg).fJ=xS sec YX) then (Dc side sec bdg fr rn ck ps now,0) else (BP,2) else (BP,2)
theorem XB(side:Int)(sec bdg fr rn ck:za)(ps:List za)(now:Int)(h:Sm (Dc side sec bdg fr rn ck ps now)):Qq (Vv side sec bdg fr rn ck ps now) (λr=>r=GX side sec bdg fr rn ck ps now):=by
 show Ok (g30 side sec bdg fr rn ck ps now) _
 unfold g30 GX
 refine Ok.c (Qq.o (GK ps (by have:=h.pr;show ps.length<=_;exact Nat.le_trans this (by decide)))) λ_ _=>Ok.c Le λr hr=>?_
 subst hr
 refine Ok.v (Mo (Dc side sec bdg fr rn ck ps now) h) λr hr=>?_
 subst hr
 cases hv:QB (Dc side sec bdg fr rn ck ps now) with
 | false=>exact Ok.t rfl (Ok.d rfl)
 | true=>
  have vf:=Ya hv
  have ho:okB bdg=true:=vf.bd
  refine Ok.f rfl (Ok.c (Ea bdg (by have:bdg.size<=86:=vf.bz;omega)) λr hr=>Ok.c (JK sec) λr2 hr2=>?_)
  rw[if_pos (show sec.size=32 from vf.sc)] at hr2
  have hr:r.1=Za bdg:=by rw[hr];unfold YZ;rw[ho];rfl
  subst hr2
  rw[hr]
  generalize xS sec YX=P
  generalize (Za bdg).fJ=K
  refine Ok.n (R:=λc=>c=!decide (K=P)) (Ok.f rfl (Ok.d (by rw[Bool.eq_iff_iff];simp;exact⟨λh e=>h e.symm,λh e=>h e.symm⟩))) λc hc=>?_
  subst hc
  cases hk:decide (K=P) with
  | false=>exact Ok.t rfl (Ok.d rfl)
  | true=>exact Ok.f rfl (Ok.g (Ok.d rfl))
theorem XF(side:Int)(sec bdg fr rn ck:za)(ps:List za)(now:Int)(h:Sm (Dc side sec bdg fr rn ck ps now)):Qq (Fp side sec bdg fr rn ck ps now) (λr=>r=GX side sec bdg fr rn ck ps now):=by
 show Ok (g31 side sec bdg fr rn ck ps now) _
 unfold g31 GX
 refine Ok.c Wd λr hr=>?_
 subst hr
 have hp:ps.length<=1000:=h.pr
 refine Ok.app (show (0+ps.length) * 16<=140737488355328 by omega) (Ok.v (Ue (Dc side sec bdg fr rn ck ps now) h) λr hr=>?_)
 subst hr
 cases hv:QB (Dc side sec bdg fr rn ck ps now) with
 | false=>exact Ok.t rfl (Ok.d rfl)
 | true=>
  have vf:=Ya hv
  have ho:okB bdg=true:=vf.bd
  refine Ok.f rfl (Ok.c (Md bdg) λr hr=>Ok.c Mm λr2 hr2=>?_)
  subst hr2
  have hr:r.1=Za bdg:=by rw[hr];unfold YZ;rw[ho];rfl
  rw[hr]
  refine Ok.c (Hc sec YX (show sec.size=32 from vf.sc) JM) λr hr=>?_
  subst hr
  generalize xS sec YX=P
  generalize (Za bdg).fJ=K
  cases hk:decide (K=P) with
  | false=>exact Ok.t rfl (Ok.d rfl)
  | true=>exact Ok.f rfl (Ok.g (Ok.d rfl))
structure MP(n:Nat)(s:Q2):Prop where
 bd:s.fe.size<=10000
 pb:s.fh.fe.size<=10000
 td:s.fE.size<=10000
 rn:s.fq.size<=10000
 pr:s.fp.length<=n
 ps:∀p,p∈s.fp->p.size<=10000
 ls:s.fo.length<=n
theorem MP.sm{n:Nat}{s:Q2}(h:MP n s)(hn:n<=100):Sm s:=⟨Nat.le_trans h.bd (by decide),Nat.le_trans h.pb (by decide),Nat.le_trans h.td (by decide),Nat.le_trans h.rn (by decide),by have:=h.pr;omega,λp hp=>Nat.le_trans (h.ps p hp) (by decide),by have:=h.ls;omega⟩
theorem smZ:MP 8 BP:=⟨by decide,by decide,by decide,by decide,by decide,λp hp=>(by cases hp),by decide⟩
theorem Vf.oT{s:Q2}(h:Vf s):MP 8 s:=⟨by have:=h.bz;omega,by have:=h.pb;omega,by have:=h.td;omega,by have:=h.rn;omega,h.pl,λp hp=>by have:=h.ps p hp;omega,by have:=h.ll;omega⟩
def NB(l:List Z1):Prop:=l.length<=8/\∀n,n∈l->n.fk.size<=10000
theorem lK:NB []:=⟨Nat.zero_le _,λ_ h=>nomatch h⟩
theorem bG{n:Z1}(h:n.fk.size<=10000):NB [n]:=⟨show 1<=8 by decide,(by grind)⟩
def PP(r:Q2×List Z1):Prop:=MP 8 r.1/\NB r.2
def OP(x:Out):Prop:=∀r,x=.inl r->PP r
theorem Ig{x:Q2×List Z1}(h:PP x):OP (.inl x):=λ_ e=>Sum.inl.inj e▸h
theorem UG{q:Bool×Int}:OP (.inr q):=λ_ e=>nomatch e
theorem Jh{c:Prop}[Decidable c]{x y:Out}(hx:OP x)(hy:OP y):OP (if c then x else y):=by grind
theorem vI{c:Bool}{x y:Out}(hx:OP x)(hy:OP y):OP (bif c then x else y):=by grind
theorem VS(s:Q2)(b:za)(h:Vf s)(hb:b.size<=4000):OP (Yo s b):=by
 have z:=h.oT
 have z5:=h.rn
 unfold Yo
 refine Jh UG (Jh UG (Ig ⟨⟨z.bd,z.pb,?_,z.rn,z.pr,z.ps,show 1<=8 by decide⟩,bG ?_⟩))
 ·grind [K1,ByteArray.size_append,X5,WT,T5]
 grind [ByteArray.size_append,X5,T5]
theorem Ti(s:Q2)(b:za)(h:Vf s)(hb:b.size<=4000):OP (I1 s b):=by
 have z:=h.oT
 have z2:=h.bz
 have z3:=h.td
 have e1:(MO s b).size=s.fE.size+(4+b.size):=by unfold MO;rw[ByteArray.size_append,K1]
 have e2:(YY s b).size=32+s.fe.size:=by unfold YY;rw[ByteArray.size_append,N4]
 have e3:(MO s b++WT 4 (YY s b)).size<=10000:=by rw[ByteArray.size_append,K1];omega
 unfold I1
 generalize MO s b++WT 4 (YY s b)=T at *
 generalize YY s b=B at *
 generalize DH s b=M
 refine Jh UG (Jh UG (Jh UG (Jh UG (Ig ⟨⟨z.bd,?_,e3,z.rn,z.pr,z.ps,show 1<=8 by decide⟩,(by grind [bG])⟩))))
 show (b.extract 64 b.size).size<=10000
 rw[ByteArray.size_extract];omega
theorem iR(s:Q2)(b:za)(h:Vf s)(hb:b.size<=4000):OP (UL s b):=by
 have z:=h.oT
 have z3:=h.td
 unfold UL
 refine Jh UG (Jh UG (Ig ⟨⟨z.bd,z.pb,?_,z.rn,z.pr,z.ps,show 0<=8 by decide⟩,lK⟩))
 grind [ByteArray.size_append,K1,WT]
theorem jD(s:Q2)(f b:za)(h:Vf s)(hb:b.size<=4000):OP (C5 s f b):=by
 have z:=h.oT
 have z2:=h.bz
 have z3:=h.td
 have z5:=h.rn
 have e1:(Mc s b).size=s.fE.size+(4+b.size):=by unfold Mc;rw[ByteArray.size_append,K1]
 have e2:(Uo s).size=s.fq.size+32+s.fe.size:=by grind [ByteArray.size_append,X5,Uo]
 have e3:(Mc s b++WT 3 (Uo s)).size<=10000:=by rw[ByteArray.size_append,K1];omega
 unfold C5
 have e4:(N2 s.fT (f++b.extract 0 64)).size=32:=R2 _ _
 generalize N2 s.fT (f++b.extract 0 64)=M at *
 generalize Mc s b++WT 3 (Uo s)=T at *
 generalize Uo s=B at *
 exact Jh UG (Jh (Jh UG (Ig ⟨⟨z.bd,z.pb,z.td,z.rn,z.pr,z.ps,show 1<=8 by decide⟩,(by grind [bG])⟩)) (Ig ⟨⟨z.bd,show 0<=10000 by decide,e3,z.rn,z.pr,z.ps,show 1<=8 by decide⟩,(by grind [bG])⟩))
theorem qJ(s:Q2)(b:za)(h:Vf s)(hb:b.size<=4000):OP (G2 s b):=by
 have z:=h.oT
 have z3:=h.td
 have e1:(WU s b).size=s.fE.size+(4+b.size):=by unfold WU;rw[ByteArray.size_append,K1]
 have e2:(Jv s b).size=32:=N4 _ _ _
 have e3:(WU s b++WT 5 (Jv s b)).size<=10000:=by rw[ByteArray.size_append,K1];omega
 unfold G2
 generalize WU s b++WT 5 (Jv s b)=T at *
 generalize Jv s b=C at *
 generalize R5 (WH s b) EY (s.fE++b.extract 32 b.size)=D
 generalize WH s b=M
 refine Jh UG (Jh UG (Jh UG (Jh UG (Jh UG (Ig ⟨⟨z.bd,?_,e3,z.rn,z.pr,z.ps,show 1<=8 by decide⟩,(by grind [bG])⟩)))))
 show (b.extract 32 b.size).size<=10000
 rw[ByteArray.size_extract];omega
theorem Qhy(s:Q2)(v:Q8)(h:Vf s)(hl:NB s.fo)(hb:v.ft=2->v.fR.fk.size<=4000):OP (Er s v):=by
 have z:=h.oT
 unfold Er
 split
 ·unfold Xn
  refine vI (Ig ⟨⟨z.bd,z.pb,z.td,z.rn,z.pr,z.ps,show 1<=8 by decide⟩,bG ?_⟩) UG
  show (s.fq++T5 s).size<=10000
  rw[ByteArray.size_append,X5,h.rn];decide
 split
 ·rename_i hk
  have hb:=hb hk
  unfold H4
  exact Jh (VS s _ h hb) (Jh (Ti s _ h hb) (Jh (iR s _ h hb) (Jh (jD s _ _ h hb) (Jh (qJ s _ h hb) UG))))
 split
 ·unfold FL
  exact vI (Ig ⟨z,lK⟩) (vI UG (Ig ⟨⟨z.bd,z.pb,z.td,z.rn,z.pr,z.ps,z.ls⟩,hl⟩))
 ·refine Ig ⟨z,?_⟩
  grind [lK,NB]
theorem aV{s:Q2}(h:QB s=true):NB s.fo:=by
 unfold QB at h
 simp only[zD] at h
 obtain⟨x,_,hl⟩:=List.any_eq_true.1 h.2
 unfold S5 at hl
 simp only[zD] at hl
 have l8:=hl.q.2.2.2
 unfold UI at l8
 split at l8
 ·simp_all [zA,List.eq_nil_of_length_eq_zero,lK]
 ·split at l8
  ·rename_i hq
   rw[hq]
   unfold P7 at l8
   simp only[zD,zA] at l8
   exact bG (by omega)
  ·cases l8
theorem DD(s:Q2)(v:Q8):MP 8 (D8 s v).1/\NB (D8 s v).2.1:=by
 unfold D8
 cases hv:QB s with
 | false=>exact⟨smZ,lK⟩
 | true=>
  cases he:iF s v with
  | false=>exact⟨smZ,lK⟩
  | true=>
   have vf:=Ya hv
   unfold iF at he
   simp only[zD,zA] at he
   obtain⟨k1,k2,k3,k4,k5,k6⟩:=he
   have nw:=vf.nw
   have hnw:N0 v.fj=true:=by
    unfold N0 at nw ⊢
    grind
   have vf2:=vf.at hnw
   have key:=Qhy { s with fj:=v.fj } v vf2 (show NB s.fo from aV hv) λh2=>by
    rw[h2] at k6
    have k6:P7 v.fR=true:=k6
    unfold P7 at k6
    grind
   rw[cond_true,cond_true]
   generalize Er { s with fj:=v.fj } v=E at *
   match E,key with
   | .inl r,key=>exact key r rfl
   | .inr (true,e),_=>have z:=vf2.oT;exact⟨⟨z.bd,show 0<=10000 by decide,show 0<=10000 by decide,z.rn,z.pr,z.ps,show 0<=8 by decide⟩,lK⟩
   | .inr (false,e),_=>exact⟨smZ,lK⟩
theorem Cp(s:Q2){n:Nat}(h:MP n s)(hn:n<=100):Qq (VQ s s) (λr=>r=true):=by
 unfold VQ
 refine Qq.fn ?_
 unfold g25
 have z1:=h.pr
 have z2:=h.ls
 refine Ok.n (R:=λc=>c=false) (by grind [Ok.f,Ok.c,xM,Ok.d]) λc hc=>?_
 subst hc
 refine Ok.f rfl (Ok.p (R:=Sum.elim (λ_=>False) (λ_=>True)) ?_ (λe he=>he.elim) λe _=>?_)
 ·refine Ok.s s.fp.length (by omega) (λk y=>y=(k:Int)) rfl (λk y hy hk=>?_) λy hy=>?_
  ·subst hy
   obtain⟨x,hx,hx'⟩:=E4 (l:=s.fp) (k:=k) hk
   grind [Ok.t,M8,Ok.r,Ok.f,Ok.d,Z9]
  ·subst hy
   exact Ok.f (by rw[M8];simp) (Ok.d trivial)
 ·refine Ok.n (R:=λc=>c=true) ?_ λc hc=>Ok.d hc
  repeat' first
   | refine Ok.d ?_
   | refine Ok.t ?_ ?_
  all_goals simp
theorem MP.mono{n m:Nat}{s:Q2}(h:MP n s)(hn:n<=m):MP m s:=⟨h.bd,h.pb,h.td,h.rn,Nat.le_trans h.pr hn,h.ps,Nat.le_trans h.ls hn⟩
theorem YM(b:HB)(s:Q2){n:Nat}(h:MP n s)(hn:n<=50):Qq (dE b s) (MP (n+1)):=by
 show Ok (g13 b s) _
 unfold g13
 have z:=h.mono (Nat.le_succ n)
 have z1:=h.pr
 have z2:=h.ls
 have hK:0<=(if (110:Int) < (b.fL.size:Int) then (110:Int) else (b.fL.size:Int))/\(if (110:Int) < (b.fL.size:Int) then (110:Int) else (b.fL.size:Int))<=(b.fL.size:Int)/\(if (110:Int) < (b.fL.size:Int) then (110:Int) else (b.fL.size:Int))<=110:=by split<;>omega
 have hT:(b.fL.extract 0 ((if (110:Int) < (b.fL.size:Int) then (110:Int) else (b.fL.size:Int))).toNat).size<=10000:=by rw[ByteArray.size_extract];omega
 refine Ok.app (show (0+s.fp.length) * 16<=140737488355328 by omega) (Ok.app (show (0+s.fo.length) * 32<=140737488355328 by omega) (Ok.k (by rw[zD,zA,zA];exact⟨hK.1,hK.2.1⟩) ?_))
 iterate 8 (refine Ok.e (λ_=>Ok.g (Ok.g (Ok.d ?_))) λ_=>?_;rotate_left)
 ·refine Ok.e (λ_=>Ok.app (show (s.fp.length+1) * 16<=140737488355328 by omega) (Ok.g (Ok.g (Ok.d ?_)))) λ_=>?_
  ·refine⟨z.bd,z.pb,z.td,z.rn,?_,λp hp=>?_,z.ls⟩
   ·show (s.fp++[_]).length<=_
    rw[wD]
    show s.fp.length+1<=_
    omega
   ·have hp:p∈s.fp++[_]:=hp
    rw[zX,wm] at hp
    rcases hp with hp|hp
    ·exact z.ps p hp
    ·rw[hp];exact hT
  iterate 6 (refine Ok.e (λ_=>Ok.g (Ok.g (Ok.d ?_))) λ_=>?_;rotate_left)
  ·refine Ok.e (λ_=>Ok.app (show (s.fo.length+1) * 32<=140737488355328 by omega) (Ok.g (Ok.g (Ok.d ?_)))) λ_=>?_
   ·refine⟨z.bd,z.pb,z.td,z.rn,z.pr,z.ps,?_⟩
    show (s.fo++[_]).length<=_
    rw[wD]
    show s.fo.length+1<=_
    omega
   iterate 3 (refine Ok.e (λ_=>Ok.g (Ok.g (Ok.d ?_))) λ_=>?_;rotate_left)
   ·refine Ok.e (λhl=>?_) λ_=>Ok.g (Ok.g (Ok.d ?_))
    ·have hl:0 < s.fo.length:=by simp at hl;omega
     obtain⟨x,hx,hx'⟩:=E4 (l:=s.fo) (k:=0) hl
     refine Ok.k (by simp;omega) (Ok.r rfl hx' (Ok.re (Ok.g (Ok.g (Ok.g (Ok.d ?_))))))
     refine⟨z.bd,z.pb,z.td,z.rn,z.pr,z.ps,?_⟩
     show (s.fo.set 0 _).length<=_
     rw[List.length_set];exact z.ls
    ·exact⟨z.bd,z.pb,z.td,z.rn,z.pr,z.ps,z.ls⟩
   all_goals exact⟨z.bd,z.pb,z.td,z.rn,z.pr,z.ps,z.ls⟩
  all_goals
   refine⟨z.bd,?_,?_,z.rn,z.pr,z.ps,z.ls⟩
   ·first|exact z.pb|exact hT
   ·first|exact z.td|exact hT
 all_goals
  refine⟨?_,z.pb,z.td,?_,z.pr,z.ps,z.ls⟩
  ·first|exact z.bd|exact hT
  ·first|exact z.rn|exact hT
theorem E9(k n:Int):Qq (UP k n) (λr=>r.size=32):=by
 unfold UP
 refine Qq.fn ?_
 unfold g43
 refine Ok.b (R:=λe=>e.size=32) ?_ λe he=>Ok.d he
 refine Ok.s 32 (by decide) (λk y=>y.1.size=k/\y.2=(k:Int)) ⟨rfl,rfl⟩ (λk y hy hk=>?_) λy hy=>?_
 ·obtain⟨h1,h2⟩:=hy
  refine Ok.t (by grind) (Ok.k (by rw[zA,W3];grind) (Ok.d ⟨?_,?_⟩))
  ·grind [ByteArray.size_append,W3,strOfNums]
  grind [Z4,Q0]
 grind [Ok.f,Ok.d]
theorem Ka(s:za)(h:s.size=32):(I3 s).size<=200:=by
 unfold I3
 rw[ByteArray.size_append,W3,ON,U1,h]
 decide
def UZ(d:Zy):Prop:=(0<=d.fH.a0/\d.fH.a0<=65535)/\(0<=d.fH.a1/\d.fH.a1<=65535)/\0<=d.gq.a0/\0<=d.gq.a1
theorem Gv(d:Zy)(hu:UZ d):Qq (s41 d) (λr=>O2 r.a0=true/\O2 r.a1=true):=by
 unfold s41
 refine Qq.fn ?_
 unfold g41
 obtain⟨u1,u2,_⟩:=hu
 refine Ok.tt (Ok.c (E9 _ _) λr1 h1=>Ok.c Mm λr2 h2=>Ok.c (Hc r1 r2 h1 (by rw[h2];exact JM)) λr3 h3=>Ok.tt (Ok.c (E9 _ _) λr4 h4=>Ok.c Mm λr5 h5=>Ok.c (Hc r4 r5 h4 (by rw[h5];exact JM)) λr6 h6=>Ok.ff (Ok.d ⟨?_,?_⟩)))
 ·have z:r3.size=32:=by grind [O1]
  show O2 ⟨bs [99,108,105,101,110,116],r3,0,Q0 d.fH.a0,0⟩=true
  unfold O2
  have hn:R0 (bs [99,108,105,101,110,116])=true:=by kernel_rfl
  rw[hn,Z4 (by omega) (by omega)]
  grind
 ·have z:r6.size=32:=by grind [O1]
  show O2 ⟨bs [115,101,114,118,101,114,46,101,120,97,109,112,108,101],r6,0,Q0 d.fH.a1,1⟩=true
  unfold O2
  have hn:R0 (bs [115,101,114,118,101,114,46,101,120,97,109,112,108,101])=true:=by kernel_rfl
  rw[hn,Z4 (by omega) (by omega)]
  grind
theorem Pn(side:Int)(sec bdg fr rn ck:za)(ps:List za)(now:Int):MP 8 (GX side sec bdg fr rn ck ps now).1:=by
 unfold GX
 cases h:QB (Dc side sec bdg fr rn ck ps now) with
 | false=>exact smZ
 | true=>
  have z:=(Ya h).oT
  grind [smZ,decide,Za,xS,YX]
theorem YA{a1 a2 a3 a4 a5:Nat}{k1 n1 k2 n2 k3 n3 side now:Int}{b:Z6}{ck:za}{ps:List za}(hv:O2 b=true)(hp:ps.length<=2)(hs:∀p,p∈ps->p.size<=200) :
  Ok (.call a1 (UP k1 n1) [] [] λr=>.call a2 (BS b) [] [] λr2=>.call a3 (UP k2 n2) [] [] λr3=>.call a4 (UP k3 n3) [] [] λr4=>.call a5 (Fp side r r2 r3 r4 ck ps now) [] [] λx=>.done x.1:TT Q2) (MP 8):=by
 refine Ok.c (E9 _ _) λr h=>Ok.c (XP b hv) λr2 h2=>Ok.c (E9 _ _) λr3 h3=>Ok.c (E9 _ _) λr4 h4=>?_
 have z:=(Yl (yP hv).1).2
 rw[<-h2] at z
 refine Ok.c (XF side r r2 r3 r4 ck ps now ⟨show r2.size<=_ by omega,show 0<=100000 by decide,show 0<=100000 by decide,show r4.size<=_ by omega,show ps.length<=_ by omega,λp hp=>Nat.le_trans (hs p hp) (by decide),show 0<=1000 by decide⟩) λx hx=>Ok.d ?_
 grind [Pn]
theorem four(a:Int)(h:0<=a):Int.tmod a 4=0\/Int.tmod a 4=1\/Int.tmod a 4=2\/Int.tmod a 4=3:=by
 grind
theorem Pw(d:Zy)(hu:UZ d):Qq (s15 d) (λr=>MP 8 r.a0/\MP 8 r.a1):=by
 unfold s15
 refine Qq.fn ?_
 unfold g15
 obtain⟨u1,u2,u3,u4⟩:=id hu
 have f0:=four _ u3
 have f1:=four _ u4
 generalize Int.tmod d.gq.a0 4=A at *
 generalize Int.tmod d.gq.a1 4=B at *
 refine Ok.c (Gv d hu) λbg hb=>Ok.c (E9 _ _) λr1 h1=>Ok.c (Kp r1 (by omega)) λo ho=>?_
 have zo:o.size<=200:=by grind [Ka]
 have l1:∀{q:za},q.size<=200->∀p,p∈[q]->p.size<=200:=(by grind)
 have l2:∀{q w:za},q.size<=200->w.size<=200->∀p,p∈[q,w]->p.size<=200:=(by grind)
 refine Ok.tt (Ok.b (R:=MP 8) ?_ λe he=>Ok.tt (Ok.b (R:=MP 8) ?_ (by grind [Ok.ff,Ok.d])))
 ·refine Ok.c (Ks bg.a1 hb.2) λq hq=>?_
  have zq:q.size<=200:=by grind [Ka,Wy]
  rcases f0 with rfl|rfl|rfl|rfl
  ·exact Ok.JS rfl (Ok.ff (Ok.g (YA hb.1 (show 1<=2 by decide) (l1 zq))))
  ·exact Ok.JS rfl (Ok.ff (Ok.g (YA hb.1 (show 2<=2 by decide) (l2 zo zq))))
  ·exact Ok.JS rfl (Ok.ff (Ok.g (YA hb.1 (show 1<=2 by decide) (l1 zo))))
  ·exact Ok.JS rfl (Ok.ff (YA hb.1 (show 0<=2 by decide) λp hp=>nomatch hp))
 ·refine Ok.c (Ks bg.a0 hb.1) λq hq=>?_
  have zq:q.size<=200:=by grind [Ka,Wy]
  rcases f1 with rfl|rfl|rfl|rfl
  ·exact Ok.JS rfl (Ok.tt (Ok.c (E9 _ _) λ_ _=>Ok.g (YA hb.2 (show 1<=2 by decide) (l1 zq))))
  ·exact Ok.JS rfl (Ok.tt (Ok.c (E9 _ _) λ_ _=>Ok.g (YA hb.2 (show 2<=2 by decide) (l2 zo zq))))
  ·exact Ok.JS rfl (Ok.tt (Ok.c (E9 _ _) λ_ _=>Ok.g (YA hb.2 (show 1<=2 by decide) (l1 zo))))
  ·exact Ok.JS rfl (Ok.tt (Ok.c (E9 _ _) λ_ _=>YA hb.2 (show 0<=2 by decide) λp hp=>nomatch hp))
def Qhb(r:O4×Z1×Int×Bool):Prop:=MP 8 r.1.a0/\MP 8 r.1.a1/\r.2.1.fk.size<=10000/\(r.2.2.1=0\/r.2.2.1=1)
def LpE(e:Q2×Q2×List Z1×Int):Prop:=MP 8 e.1/\MP 8 e.2.1/\NB e.2.2.1/\(e.2.2.2=0\/e.2.2.2=1)
theorem Cs(d:Zy)(t:Y9)(ht:WZ t)(p:Zp)(hu:UZ d)(hs:0<=p.gr/\p.gr < 256):Qq (s10 d t p) Qhb:=by
 unfold s10
 refine Qq.fn ?_
 unfold g10
 rw[Z4 (n:=p.gr) (by omega) (by omega)]
 have hS:Int.tmod p.gr 8 < 8:=by grind
 generalize Int.tmod p.gr 8=S at *
 generalize Q0 (Int.tmod p.gv 100)=F
 refine Ok.c (Pw d hu) λb hb=>Ok.e (λ_=>Ok.d ⟨hb.1,hb.2,show 0<=10000 by decide,.inl rfl⟩) λ_=>?_
 refine Ok.c (Ex t ht b.a0 _ (hb.1.sm (by decide))) λq hq=>?_
 have zq:=DD b.a0 (Q8.mk 1 b.a0.fj zd (Z1.mk 0 0 zd))
 rw[<-hq] at zq
 clear hq
 refine Ok.p (R:=Sum.elim LpE LpE) ?_ (λe he=>Ok.d ⟨he.1,he.2.1,show 0<=10000 by decide,.inl rfl⟩) λe he=>?_
 ·refine Ok.s 8 (by decide) (λk y=>MP 8 y.1/\MP 8 y.2.1/\NB y.2.2.2.1/\(y.q.1=0\/y.q.1=1)/\y.q.2=(k:Int)+1) (by grind) (λk y hy hk=>?_) λy hy=>?_
  ·obtain⟨h1,h2,h3,h4,h5⟩:=hy
   obtain⟨y1,y2,y3,y4,y5,y6⟩:=y
   simp only at h1 h2 h3 h4 h5
   refine Ok.n (R:=λc=>c=true->0 < y4.length) (Ok.e (λ_=>Ok.d λh=>?_) (by grind [Ok.d])) λc hc=>Ok.e (λh=>?_) (by grind [Ok.d,LpE])
   ·grind [M8]
   ·obtain⟨x,hx,hx'⟩:=E4 (l:=y4) (k:=0) (hc h)
    have w1:Q0 (y6+1)=((k+1:Nat):Int)+1:=by grind [Z4]
    rcases h4 with rfl|rfl
    ·refine Ok.JS rfl (Ok.r rfl hx' (Ok.c (Ex t ht y1 _ (h1.sm (by decide))) λq hq=>Ok.e (λ_=>Ok.d (show LpE (y1,y2,y4,0) from⟨h1,h2,h3,.inl rfl⟩)) λ_=>Ok.JS rfl (Ok.d ?_)))
     have zq:=DD y1 (Q8.mk 2 (Q0 (y3+F)) (bs [102,97,114]) x)
     rw[<-hq] at zq
     exact⟨zq.1,h2,zq.2,.inr rfl,w1⟩
    ·refine Ok.JS rfl (Ok.r rfl hx' (Ok.c (Ex t ht y2 _ (h2.sm (by decide))) λq hq=>Ok.e (λ_=>Ok.d (show LpE (y1,y2,y4,1) from⟨h1,h2,h3,.inr rfl⟩)) λ_=>Ok.JS rfl (Ok.d ?_)))
     have zq:=DD y2 (Q8.mk 2 (Q0 (y3+F)) (bs [102,97,114]) x)
     rw[<-hq] at zq
     exact⟨h1,zq.1,zq.2,.inl rfl,w1⟩
  ·obtain⟨h1,h2,h3,h4,h5⟩:=hy
   obtain⟨y1,y2,y3,y4,y5,y6⟩:=y
   simp only at h1 h2 h3 h4 h5
   exact Ok.n (R:=λc=>c=false) (Ok.f (by grind) (Ok.d rfl)) (by grind [Ok.f,Ok.d,LpE])
 ·obtain⟨h1,h2,h3,h4⟩:=he
  refine Ok.e (λ_=>Ok.d ⟨h1,h2,show 0<=10000 by decide,.inl rfl⟩) λh=>?_
  rw[M8] at h
  obtain⟨x,hx,hx'⟩:=E4 (l:=e.2.2.1) (k:=0) (by grind)
  exact Ok.r rfl hx' (Ok.d ⟨h1,h2,h3.2 x (zP hx'),h4⟩)
theorem Td{a1 a2 a3 a4 a5 a6 a7:Nat}{l:List Nat}{K:TT Bool}{Q:Bool->Prop}(s:Q2)(h:Sm s)(hK:Ok K Q):Ok (.call a1 (eO s) [] [] λr=>.call a2 (eA s) [] [] λr2=>.QK a3 l (.call a4 (Tp s) [] [] λr3=>.call a5 (eD s) [] [] λr4=>.br a6 (r3 != r4) (.done true) (.br a7 (r.1 != r2.1) (.done true) (.done (r.2 != r2.2)))) zi λc=>.br 0 c (.done false) K) Q:=by
 refine Ok.c (xP s h) λr hr=>Ok.c (Cr s h) λr2 hr2=>Ok.n (R:=λc=>c=false) (Ok.c (Mo s h) λr3 hr3=>Ok.c (Pe s h) λr4 hr4=>Ok.f ?_ (Ok.f ?_ (Ok.d ?_))) λc hc=>Ok.f hc hK
 ·rw[hr3,hr4];simp
 ·rw[hr,hr2];simp
 ·rw[hr,hr2];simp
theorem DS{n:Nat}{s:Q2}(h:MP n s)(hn:n<=100)(side now:Int):Sm (Dc side s.fV s.fe s.fQ s.fq s.fT s.fp now):=by
 have z:=h.sm hn
 exact⟨z.bd,show 0<=100000 by decide,show 0<=100000 by decide,z.rn,z.pr,z.ps,show 0<=1000 by decide⟩
theorem yO{a3 a4 a5:Nat}{l:List Nat}{K:TT Bool}{Q:Bool->Prop}{x y:Q2×Int}(hx:MP 8 x.1)(e:y=x)(hK:Ok K Q):Ok (.QK a3 l (.br a4 (x.2 != y.2) (.done true) (.call a5 (VQ x.1 y.1) [] [] λq=>.done (!q))) zi λc=>.br 0 c (.done false) K) Q:=by
 subst e
 exact Ok.n (R:=λc=>c=false) (Ok.f (by simp) (Ok.c (Cp y.1 hx (by decide)) λq hq=>Ok.d (by rw[hq];rfl))) λc hc=>Ok.f hc hK
theorem Qzf{a1 a2 a3 a4 a5:Nat}{l:List Nat}{K:TT Bool}{Q:Bool->Prop}{n:Nat}{s:Q2}{side now:Int}(h:MP n s)(hn:n<=100)(hK:Ok K Q):Ok (.call a1 (Vv side s.fV s.fe s.fQ s.fq s.fT s.fp now) [] [] λx=>.call a2 (Fp side s.fV s.fe s.fQ s.fq s.fT s.fp now) [] [] λy=>.QK a3 l (.br a4 (x.2 != y.2) (.done true) (.call a5 (VQ x.1 y.1) [] [] λq=>.done (!q))) zi λc=>.br 0 c (.done false) K) Q:=
 Ok.c (XB _ _ _ _ _ _ _ _ (DS h hn side now)) λx hx=>Ok.c (XF _ _ _ _ _ _ _ _ (DS h hn side now)) λy hy=>yO (by rw[hx];exact Pn _ _ _ _ _ _ _ _) (by rw[hx,hy]) hK
theorem aE{a1 a2 a3 a4 a5 g:Nat}{l:List Nat}{w:gJ}{K:TT Bool}{Q:Bool->Prop}{n:Nat}{s:Q2}{side now:Int}(h:MP n s)(hn:n<=100)(hK:Ok K Q):Ok (.call a1 (Vv side s.fV s.fe s.fQ s.fq s.fT s.fp now) [] [] λx=>.gh g w (.call a2 (Fp side s.fV s.fe s.fQ s.fq s.fT s.fp now) [] [] λy=>.QK a3 l (.br a4 (x.2 != y.2) (.done true) (.call a5 (VQ x.1 y.1) [] [] λq=>.done (!q))) zi λc=>.br 0 c (.done false) K)) Q:=
 Ok.c (XB _ _ _ _ _ _ _ _ (DS h hn side now)) λx hx=>Ok.g (Ok.c (XF _ _ _ _ _ _ _ _ (DS h hn side now)) λy hy=>yO (by rw[hx];exact Pn _ _ _ _ _ _ _ _) (by rw[hx,hy]) hK)
theorem Qze:Qq s9 WZ:=by
 obtain⟨r,h1,h2⟩:=IP
 exact⟨r,h1,oP h2⟩
theorem CQ(hw:Qq s14 (λr=>r=true))(d:Zy)(p:Zp)(x y:HB)(side now:Int)(hu:UZ d)(hs:0<=p.gr/\p.gr < 256):Qq (s7 d p x y side now) (λr=>r=true):=by
 unfold s7
 refine Qq.fn ?_
 unfold g7
 refine Ok.c Qze λt ht=>Ok.c (Cs d t ht p hu hs) λr hr=>?_
 obtain⟨z0,z1,_,_⟩:=hr
 have l8:8<=50:=by decide
 have l9:8+1<=50:=by decide
 have m8:8<=100:=by decide
 have m9:8+1<=100:=by decide
 have m10:8+1+1<=100:=by decide
 refine Ok.tt (Ok.c (YM x _ z0 l8) λx1 y1=>Ok.c (YM x _ z0 l8) λx2 y2=>Ok.c (YM y _ y2 l9) λx3 y3=>?_)
 refine Ok.tt (Td _ (z0.sm m8) (Ok.tt (Ok.g (Td _ (y1.sm m9) (Ok.tt (Ok.g (Td _ (y3.sm m10) (Ok.ff ?_))))))))
 refine Ok.c (YM x _ z0 l8) λx4 y4=>Ok.tt (Qzf z0 m8 (Ok.tt (Ok.g (Ok.g (aE y4 m9 (Ok.ff (Qzf z0 m8 (Ok.tt (Ok.g ?_)))))))))
 refine Ok.c (YM x _ z1 l8) λx1 y1=>Ok.c (YM x _ z1 l8) λx2 y2=>Ok.c (YM y _ y2 l9) λx3 y3=>?_
 refine Ok.tt (Ok.g (Td _ (z1.sm m8) (Ok.tt (Ok.g (Td _ (y1.sm m9) (Ok.tt (Ok.g (Td _ (y3.sm m10) (Ok.ff (Ok.g ?_))))))))))
 refine Ok.c (YM x _ z1 l8) λx4 y4=>Ok.tt (Ok.g (Ok.g (aE z1 m8 (Ok.tt (Ok.g (Ok.g (aE y4 m9 (Ok.ff (Ok.g (aE z1 m8 (Ok.ff ?_)))))))))))
 exact Ok.c hw λr hr=>Ok.d hr
end Go.Proofs.YtjdieimefebnfaaGreatDoor
