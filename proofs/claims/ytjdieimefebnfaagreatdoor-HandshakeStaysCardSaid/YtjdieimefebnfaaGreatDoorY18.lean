/- Part Y18. -/
import Derived.Test.YtjdieimefebnfaaGreatDoorY17
set_option linter.unusedVariables false
set_option linter.unusedSimpArgs false
set_option maxRecDepth 100000
noncomputable section
namespace Go.Proofs.YtjdieimefebnfaaGreatDoor
open Go Go.EV Crv
theorem iP{s:Q2}{v:Q6}(hs:QY s=true)(hk:1<=v.fw/\v.fw<=4)(hn:v.fk=s.fk)(hf:v.fF.size<=64)(hb:v.fw=2->B1 v.fP=true):J1 s v=Dl s (HY s v):=by
 have e:({ s with fk:=v.fk }:Q2)=s:=by rw[hn]
 have f:=N8.1 ((E1 s).1 (C2 hs).1).nw;rw[Aa hs,e];unfold Bp;grind
theorem nM{k q:Int}{b:ze}(hk:0<=k/\k<=255)(hq:0<=q/\q < 65536)(hb:b.size<=4000):B1 ⟨k,q,b⟩=true:=by
 unfold B1;grind
theorem VP{x y:ze}{n:Nat}(h:x.size=n):(x++y).extract 0 n=x:=by subst h;exact ByteArray.extract_append_eq_left rfl
theorem Qjn{x y:ze}{n m:Nat}(h:x.size=n)(hm:m=n+y.size):(x++y).extract n m=y:=by
 subst h;subst hm;exact ByteArray.extract_append_eq_right rfl rfl
theorem Qec{x y z:ze}{n m:Nat}(hx:x.size=n)(hy:y.size=m - n)(_:n<=m):(x++y++z).extract n m=y:=by
 rw[ByteArray.append_assoc,ByteArray.extract_append];have h1:x.extract n m=zg:=by
  simp_all
 rw[h1,ByteArray.empty_append,hx,Nat.sub_self];exact VP (by omega)
structure Ends where
 sc:ze
 bc:ze
 fc:ze
 rc:ze
 pc:List ze
 ss:ze
 bv:ze
 fs:ze
 rs:ze
 ck:ze
 pv:List ze
 n:Int
variable (p:Ends)
def Yw:ze:=bs [102,97,114]
def pZ:Q2:=Jm 1 p.sc p.bc p.fc p.rc zg p.pc p.n
def qP:Q2:=Jm 2 p.ss p.bv p.fs p.rs p.ck p.pv p.n
def eH:ze:=p.rc++P0 p.fc
def eK:ze:=ZJ p.ck (Yw++eH p)
def oY:Q2:=MI (pZ p) 2 1 (eH p)
def qR:Q2:=MI (qP p) 1 2 (eK p)
def qS:Q2:={ MI (oY p) 3 1 (eH p++eK p) with fB:=Jk 1 (eH p++eK p) }
def eA:ze:=p.rs++P0 p.fs++p.bv
def eT:ze:=Jk 1 (eH p++eK p)++Jk 3 (eA p)
def VV:Q2:={ MI (qR p) 4 3 (eA p) with fj:=⟨p.rc,P0 p.fc,zg⟩,fB:=eT p }
def eM:ze:=FC (xS p.fc (P0 p.ss)) (xS p.sc (P0 p.fs)) p.rc p.rs
def eB:ze:=L0 (eM p) Kp (eT p++p.bc)++p.bc
def bM:Q2:={ MI (qS p) 5 4 (eB p) with fj:=⟨p.rs,P0 p.fs,p.bv⟩,fH:=eM p,fB:=eT p++Jk 4 (eB p) }
def eD:ze:=L0 (eM p) Xe (eT p++Jk 4 (eB p))
def eS3:Q2:={ MI (VV p) 6 5 (eD p) with fj:=⟨p.rc,P0 p.fc,p.bc⟩,fH:=eM p,fB:=eT p++Jk 4 (eB p)++Jk 5 (eD p) }
def eC4:Q2:={ bM p with fB:=eT p++Jk 4 (eB p)++Jk 5 (eD p),fo:=6,fM:=[],fq:=iS }
structure R8:Prop where
 c:QY (pZ p)=true
 s:QY (qP p)=true
 kc:(Zj p.bc).fI=P0 p.sc
 ks:(Zj p.bv).fI=P0 p.ss
def Th(k q:Int)(b:ze):Q6:=⟨2,p.n,Yw,⟨k,q,b⟩⟩
def aC:Int:=T9 (Zj p.bv) p.pc p.n
def aS:Int:=T9 (Zj p.bc) p.pv p.n
section
variable {p}
theorem R8.zc(h:R8 p):p.sc.size=32/\p.fc.size=32/\p.rc.size=32/\okB p.bc=true:=by
 have v:=L7 h.c;exact⟨v.sc,v.fr,v.rn,v.bd⟩
theorem R8.zs(h:R8 p):p.ss.size=32/\p.fs.size=32/\p.rs.size=32/\okB p.bv=true:=by
 have v:=L7 h.s;exact⟨v.sc,v.fr,v.rn,v.bd⟩
theorem R8.zH(h:R8 p):(eH p).size=64:=by unfold eH;rw[ByteArray.size_append,Uh,h.zc.2.2.1]
theorem zK:(eK p).size=32:=B4 _ _
theorem R8.zHK(h:R8 p):(eH p++eK p).size=96:=by rw[ByteArray.size_append,h.zH,zK]
theorem R8.zA(h:R8 p):(eA p).size=64+p.bv.size:=by unfold eA;rw[ByteArray.size_append,ByteArray.size_append,Uh,h.zs.2.2.1]
theorem zEB:(eB p).size=32+p.bc.size:=by unfold eB;rw[ByteArray.size_append,X4]
theorem TD{s:Q2}{k q:Int}{b:ze}(hs:QY s=true)(hn:s.fk=p.n)(hk:0<=k/\k<=255)(hq:0<=q/\q < 65536)(hb:b.size<=4000):J1 s (Th p k q b)=Dl s (U6 s Yw ⟨k,q,b⟩):=
 iP hs (show (1:Int)<=2/\(2:Int)<=4 by decide) hn.symm (by decide:Yw.size<=64) λ_=>nM hk hq hb
theorem Qyn{s:Q2}{f b:ze}{q:Int}(h1:s.fp=1)(h2:s.fo=2\/s.fo=3):U6 s f ⟨2,q,b⟩=Zv s b:=by
 unfold U6;rw[if_pos (show s.fp=1/\(s.fo=2\/s.fo=3)/\(2:Int)=2 from⟨h1,h2,rfl⟩)]
theorem Qyg{s:Q2}{f b:ze}{q:Int}(h1:s.fp=1)(h2:s.fo=3):U6 s f ⟨3,q,b⟩=X7 s b:=by
 unfold U6;rw[if_neg (show ¬(s.fp=1/\(s.fo=2\/s.fo=3)/\(3:Int)=2) from λx=>absurd x.2.2 (by decide)),if_pos (show s.fp=1/\s.fo=3/\(3:Int)=3 from⟨h1,h2,rfl⟩)]
theorem Qyl{s:Q2}{f b:ze}{q:Int}(h1:s.fp=1)(h2:s.fo=5):U6 s f ⟨5,q,b⟩=JQ s b:=by
 unfold U6;rw[if_neg (show ¬(s.fp=1/\(s.fo=2\/s.fo=3)/\(5:Int)=2) from λx=>absurd x.2.2 (by decide)),if_neg (show ¬(s.fp=1/\s.fo=3/\(5:Int)=3) from λx=>absurd x.2.2 (by decide)),if_pos (show s.fp=1/\s.fo=5/\(5:Int)=5 from⟨h1,h2,rfl⟩)]
theorem eP{s:Q2}{f b:ze}{q:Int}(h1:s.fp=2)(h2:s.fo=1):U6 s f ⟨1,q,b⟩=R3 s f b:=by
 unfold U6;rw[if_neg (λx=>absurd (h1.symm.trans x.1) (by decide)),if_neg (λx=>absurd (h1.symm.trans x.1) (by decide)),if_neg (λx=>absurd (h1.symm.trans x.1) (by decide)),if_pos (show s.fp=2/\s.fo=1/\(1:Int)=1 from⟨h1,h2,rfl⟩)]
theorem Qyf{s:Q2}{f b:ze}{q:Int}(h1:s.fp=2)(h2:s.fo=4):U6 s f ⟨4,q,b⟩=G3 s b:=by
 unfold U6;rw[if_neg (λx=>absurd (h1.symm.trans x.1) (by decide)),if_neg (λx=>absurd (h1.symm.trans x.1) (by decide)),if_neg (λx=>absurd (h1.symm.trans x.1) (by decide)),if_neg (show ¬(s.fp=2/\s.fo=1/\(4:Int)=1) from λx=>absurd x.2.2 (by decide)),if_pos (show s.fp=2/\s.fo=4/\(4:Int)=4 from⟨h1,h2,rfl⟩)]
theorem ON(h:R8 p)(f:ze)(hf:f.size<=64)(n:Qq):J1 (pZ p) ⟨1,p.n,f,n⟩=(oY p,[⟨1,0,eH p⟩],0):=by
 rw[iP h.c (by decide:(1:Int)<=1/\(1:Int)<=4) rfl hf (by grind)];rfl
theorem R8.c1(h:R8 p):QY (oY p)=true:=by
 have e:=ON h Yw (by decide) ⟨0,0,zg⟩;grind [ZN,s,pZ,Yw,ByteArray.empty]
theorem Qqa(h:R8 p):J1 (qP p) (Th p 1 0 (eH p))=(qR p,[⟨2,0,eK p⟩],0):=by
 have zh:=h.zH;rw[TD h.s rfl (by decide) (by decide) (by omega),eP rfl rfl]
 have e0:(eH p).extract 0 64=eH p:=by grind [ByteArray.extract_zero_size]
 have e1:(eH p).extract 64 (eH p).size≠ZJ p.ck (Yw++eH p):=λe=>by
  have:=congrArg ByteArray.size e;grind [B4,ByteArray.size_extract]
 unfold R3;rw[if_neg (by omega),e0,if_pos (show (eH p).extract 64 (eH p).size≠ZJ (qP p).fX (Yw++eH p) from e1),if_neg (show ¬¬(qP p).fm < 6 from λx=>x (show (0:Int) < 6 by decide))];rfl
theorem R8.s1(h:R8 p):QY (qR p)=true:=by
 have:=ZN (s:=qP p) (v:=Th p 1 0 (eH p)) (by rw[Qqa h]);rwa [Qqa h] at this
theorem Qqx(h:R8 p):J1 (oY p) (Th p 2 0 (eK p))=(qS p,[⟨1,1,eH p++eK p⟩],0):=by
 rw[TD h.c1 rfl (by decide) (by decide) (by rw[zK];decide),Qyn rfl (.inl rfl)];unfold Zv;rw[if_neg (by grind [zK,eK]),if_neg (show ¬¬(oY p).fm < 7 from λx=>x (show (0+1:Int) < 7 by decide))];rfl
theorem R8.c2(h:R8 p):QY (qS p)=true:=by
 have:=ZN (s:=oY p) (v:=Th p 2 0 (eK p)) (by rw[Qqx h]);rwa [Qqx h] at this
theorem Qqd(h:R8 p):J1 (qR p) (Th p 1 1 (eH p++eK p))=(VV p,[⟨3,1,eA p⟩],0):=by
 have zh:=h.zH
 have z:=h.zHK;rw[TD h.s1 rfl (by decide) (by decide) (by omega),eP rfl rfl]
 have e0:(eH p++eK p).extract 0 64=eH p:=VP zh
 have e1:(eH p++eK p).extract 64 (eH p++eK p).size=eK p:=Qjn zh (by grind)
 have e2:(eH p++eK p).extract 0 32=p.rc:=by unfold eH;rw[ByteArray.append_assoc];exact VP h.zc.2.2.1
 have e3:(eH p++eK p).extract 32 64=P0 p.fc:=by grind [Qec,Uh,eH]
 unfold R3;rw[if_neg (by omega),e0,e1,if_neg (show ¬eK p≠ZJ (qR p).fX (Yw++eH p) from λx=>x rfl),e2,e3];have e4:Dx (qR p) (eH p++eK p)++Jk 3 (HZ (qR p))=eT p:=by
  show zg++Jk 1 (eH p++eK p)++Jk 3 (eA p)=_;rw[ByteArray.empty_append];rfl
 show (({ MI (qR p) 4 3 (eA p) with fj:=⟨p.rc,P0 p.fc,zg⟩,fB:=Dx (qR p) (eH p++eK p)++Jk 3 (HZ (qR p)) }:Q2),[(⟨3,1,eA p⟩:Qq)],(0:Int))=_;rw[e4];rfl
theorem R8.s2(h:R8 p):QY (VV p)=true:=by
 have:=ZN (s:=qR p) (v:=Th p 1 1 (eH p++eK p)) (by rw[Qqd h]);rwa [Qqd h] at this
theorem xD(a b:ze):xS a (P0 b)≠MQ:=(by grind [Qdq,LG,P0])
theorem Qw1(h:R8 p):J1 (qS p) (Th p 3 1 (eA p))=if aC p≠0 then (Un (qS p) (aC p),[],0) else (bM p,[⟨4,2,eB p⟩],0):=by
 have za:=h.zA
 have bz:=ZV h.zs.2.2.2;rw[TD h.c2 rfl (by decide) (by decide) (by omega),Qyg rfl rfl]
 have z2:(p.rs++P0 p.fs).size=64:=by rw[ByteArray.size_append,Uh,h.zs.2.2.1]
 have e1:(eA p).extract 64 (eA p).size=p.bv:=by grind [Qjn,ByteArray.size_append,eA]
 have e2:(eA p).extract 0 32=p.rs:=by unfold eA;rw[ByteArray.append_assoc];exact VP h.zs.2.2.1
 have e3:(eA p).extract 32 64=P0 p.fs:=by grind [Qec,Uh,eA]
 have eM':DW (qS p) (eA p)=eM p:=by
  unfold DW;rw[e1,e2,e3,h.ks];rfl
 have eT':WH (qS p) (eA p)=eT p:=rfl
 have eB':Hd (qS p) (eA p)=eB p:=by unfold Hd;rw[eM',eT'];rfl
 unfold X7;rw[if_neg (by omega),e1,if_neg (by rw[h.zs.2.2.2];decide)];show Dl (qS p) (if aC p≠0 then _ else _)=_;by_cases ha:aC p≠0
 ·rw[if_pos ha,if_pos ha];rfl
 rw[if_neg ha,if_neg ha,h.ks,e3,if_neg (by grind [xD,xS,qS,P0,MQ]),eM',eB',eT',e2];rfl
theorem Qu0(h:R8 p):FC (xS p.ss (P0 p.fc)) (xS p.fs (P0 p.sc)) p.rc p.rs=eM p:=by
 grind [pH,eM]
theorem Qw0(h:R8 p):J1 (VV p) (Th p 4 2 (eB p))=if aS p≠0 then (Un (VV p) (aS p),[],0) else (eS3 p,[⟨5,2,eD p⟩],0):=by
 have zb:=zEB (p:=p)
 have bz:=ZV h.zc.2.2.2;rw[TD h.s2 rfl (by decide) (by decide) (by omega),Qyf rfl rfl]
 have e1:(eB p).extract 32 (eB p).size=p.bc:=by grind [Qjn,X4,ByteArray.size_append,eB]
 have e2:(eB p).extract 0 32=L0 (eM p) Kp (eT p++p.bc):=by grind [VP,X4,eB]
 have eM':Kg (VV p) (eB p)=eM p:=by
  unfold Kg;rw[e1,h.kc];exact Qu0 h
 have eT':Mk (VV p) (eB p)=eT p++Jk 4 (eB p):=rfl
 have eC':Hb (VV p) (eB p)=eD p:=by unfold Hb;rw[eM',eT'];rfl
 unfold G3;rw[if_neg (by omega),e1,if_neg (by rw[h.zc.2.2.2];decide)];show Dl (VV p) (if aS p≠0 then _ else _)=_;by_cases ha:aS p≠0
 ·rw[if_pos ha,if_pos ha];rfl
 rw[if_neg ha,if_neg ha,h.kc,if_neg (by grind [xD,xS,VV,MQ,P0]),eM',e2,if_neg (show ¬L0 (eM p) Kp (eT p++p.bc)≠L0 (eM p) Kp ((VV p).fB++p.bc) from λx=>x rfl),eC',eT'];rfl
theorem R8.c3(h:R8 p)(ha:aC p=0):QY (bM p)=true:=by
 have e:=Qw1 h;rw[if_neg (λx=>x ha)] at e;grind [ZN,s,qS,Th,eA]
theorem R8.s3(h:R8 p)(ha:aS p=0):QY (eS3 p)=true:=by
 have e:=Qw0 h;rw[if_neg (λx=>x ha)] at e;grind [ZN,s,VV,Th,eB]
theorem Qqe(h:R8 p)(ha:aC p=0):J1 (bM p) (Th p 5 2 (eD p))=(eC4 p,[],0):=by
 have zd:(eD p).size=32:=X4 _ _ _;rw[TD (h.c3 ha) rfl (by decide) (by decide) (by omega),Qyl rfl rfl];unfold JQ;rw[if_neg (by grind),if_neg (show ¬eD p≠L0 (bM p).fH Xe (bM p).fB from λx=>x rfl)];rfl
theorem R8.c4(h:R8 p)(ha:aC p=0):QY (eC4 p)=true:=by
 have:=ZN (s:=bM p) (v:=Th p 5 2 (eD p)) (by rw[Qqe h ha]);grind [Qqe]
end
end Go.Proofs.YtjdieimefebnfaaGreatDoor
namespace Go.Proofs.YtjdieimefebnfaaGreatDoor
open Go Go.EV
def GI(x:Out):Prop:=∀r,x=.inl r->r.2.length<=1
theorem KY{r:Q2×List Qq}(h:r.2.length<=1):GI (.inl r):=λq hq=>by grind
theorem V3(e:Bool×Int):GI (.inr e):=λq hq=>by cases hq
theorem D9{p:Prop}[Decidable p]{x y:Out}(hx:GI x)(hy:GI y):GI (if p then x else y):=by grind
theorem Gj{p:Bool}{x y:Out}(hx:GI x)(hy:GI y):GI (bif p then x else y):=by grind
theorem Qjc(s:Q2)(v:Q6)(h:s.fM.length<=1):GI (HY s v):=by
 unfold HY;refine D9 ?_ (D9 ?_ (D9 ?_ (KY ?_)))
 ·exact Gj (KY (zN 1)) (V3 _)
 ·unfold U6;refine D9 ?_ (D9 ?_ (D9 ?_ (D9 ?_ (D9 ?_ (V3 _)))))
  ·exact D9 (V3 _) (D9 (V3 _) (KY (zN 1)))
  ·exact D9 (V3 _) (D9 (V3 _) (D9 (V3 _) (D9 (V3 _) (KY (zN 1)))))
  ·exact D9 (V3 _) (D9 (V3 _) (KY (Nat.zero_le 1)))
  ·exact D9 (V3 _) (D9 (D9 (V3 _) (KY (zN 1))) (KY (zN 1)))
  ·exact D9 (V3 _) (D9 (V3 _) (D9 (V3 _) (D9 (V3 _) (D9 (V3 _) (KY (zN 1))))))
 ·exact Gj (KY (Nat.zero_le 1)) (Gj (V3 _) (KY h))
 grind
theorem jX(s:Q2)(v:Q6):(J1 s v).2.1.length<=1:=by
 unfold J1;cases hs:QY s with
 | false=>grind
 | true=>
  cases Bp s v with
  | false=>grind
  | true=>
   have k:=Qjc { s with fk:=v.fk } v (L7 hs).ll;simp only[cond_true]
   match hq:HY { s with fk:=v.fk } v with
   | .inl r=>exact k r hq
   | .inr (true,e)=>exact Nat.zero_le 1
   | .inr (false,e)=>exact Nat.zero_le 1
def sC(s:Q2)(now:Int)(val:Bool)(q:List Qq)(k:Int)(n:Qq):List Qq×Q2×Bool:=
 bif (J1 s ⟨k,now,Yw,n⟩).2.2 != 0 then (q,s,val) else (q++(J1 s ⟨k,now,Yw,n⟩).2.1,(J1 s ⟨k,now,Yw,n⟩).1,val)
theorem dB{a1 a2 a3 a4 b2:Nat}{s t:Q2}{now:Int}{k:Int}{n:Qq}{val:Bool}{q:List Qq}{w1 w2 w3:cQ}(hq:q.length<=100000)(hs:t=s){f1 f2:true=true->∀y:Qq,Z0.c y=Z0.d y} :
  Ok (.br a1 ((J1 s ⟨k,now,Yw,n⟩).2.2 != 0) (.gh a2 w1 (.done (q,t,val))) (.br a3 val (.call a4 (tE (J1 s ⟨k,now,Yw,n⟩).1) [] [] λr=>.app b2 Z0 q (J1 s ⟨k,now,Yw,n⟩).2.1 32 true f1 (.gh a2 w2 (.done (q++(J1 s ⟨k,now,Yw,n⟩).2.1,(J1 s ⟨k,now,Yw,n⟩).1,r==0))))
   (.app b2 Z0 q (J1 s ⟨k,now,Yw,n⟩).2.1 32 true f2 (.gh a2 w3 (.done (q++(J1 s ⟨k,now,Yw,n⟩).2.1,(J1 s ⟨k,now,Yw,n⟩).1,false))))):TT (List Qq×Q2×Bool)) (λr=>r=sC s now val q k n):=by
 subst hs;have hl:=jX t ⟨k,now,Yw,n⟩;have hv:=@ZN t ⟨k,now,Yw,n⟩;unfold sC;generalize J1 t ⟨k,now,Yw,n⟩=S at *
 refine Ok.e (by grind [Ok.g,Ok.d]) λh=>?_;have hz:S.2.2=0:=by simpa using h
 refine Ok.e (λh2=>Ok.c (AR S.1 (L7 (hv hz)).sm) λr hr=>Ok.app (by omega) (Ok.g (Ok.d ?_))) λh2=>Ok.app (by omega) (Ok.g (Ok.d ?_))
 ·grind
 grind
theorem Rz(ev:Q6)(a b:Q2)(now:Int)(val:Bool)(q0 q1:List Qq)(ha:QY a=true)(hq:q1.length<=100000):Qj (s17 ev a b now val q0 q1) (λr=>r=sC a now val q1 ev.fw ev.fP):=by
 show Ok (g17 ev a b now val q0 q1) _;unfold g17;refine Ok.c (E9 a _ (L7 ha).sm) λr hr=>?_;subst hr;exact dB hq rfl
theorem mZ(ev:Q6)(a b:Q2)(now:Int)(val:Bool)(q0 q1:List Qq)(hb:QY b=true)(hq:q0.length<=100000):Qj (sA ev a b now val q0 q1) (λr=>r=sC b now val q0 ev.fw ev.fP):=by
 show Ok (dH ev a b now val q0 q1) _;unfold dH;refine Ok.c (E9 b _ (L7 hb).sm) λr hr=>?_;subst hr;exact dB hq rfl
def mtD(s:Q2)(now:Int)(val:Bool)(q q2:List Qq):List Qq×List Qq×Q2×Bool:=match q with
 | []=>([],q2,s,val)
 | n :: q=>(q,sC s now val q2 2 n)
theorem Qzx(a b:Q2)(now:Int)(val:Bool)(q0 q1:List Qq)(ha:QY a=true)(hq:q1.length<=100000):Qj (s18 a b now val q0 q1) (λr=>r=mtD a now val q0 q1):=by
 show Ok (g18 a b now val q0 q1) _;unfold g18;cases q0 with
 | nil=>exact Ok.t rfl (Ok.g (Ok.g (Ok.d rfl)))
 | cons n q=>
  refine Ok.f (by grind) (Ok.k (by simp<;>omega) (Ok.r rfl rfl (Ok.k (by simp<;>omega) (Ok.g (Ok.IM (by simp) (Ok.g ?_))))));refine Ok.c (R:=λr=>r=n) ⟨n,rfl,rfl⟩ λr hr=>?_;subst hr;refine Ok.c (Rz _ a b now val _ q1 ha hq) λr2 hr2=>Ok.g (Ok.g (Ok.d ?_));subst hr2;rfl
theorem Qzd(a b:Q2)(now:Int)(val:Bool)(q0 q1:List Qq)(hb:QY b=true)(hq:q0.length<=100000):Qj (Ca a b now val q0 q1) (λr=>r=((mtD b now val q1 q0).2.1,(mtD b now val q1 q0).1,(mtD b now val q1 q0).2.2)):=by
 show Ok (dU a b now val q0 q1) _;unfold dU;cases q1 with
 | nil=>exact Ok.t rfl (Ok.g (Ok.g (Ok.d rfl)))
 | cons n q=>
  refine Ok.f (by grind) (Ok.k (by simp<;>omega) (Ok.r rfl rfl (Ok.k (by simp<;>omega) (Ok.g (Ok.IM (by simp) (Ok.g ?_))))));refine Ok.c (R:=λr=>r=n) ⟨n,rfl,rfl⟩ λr hr=>?_;subst hr;refine Ok.c (mZ _ a b now val q0 _ hb hq) λr2 hr2=>Ok.g (Ok.g (Ok.d ?_));subst hr2;rfl
structure SmN(n:Nat)(s:Q2):Prop where
 bd:s.fh.size<=10000
 pb:s.fj.fh.size<=10000
 td:s.fB.size<=10000
 rn:s.fA.size<=10000
 pr:s.fJ.length<=n
 ps:∀p,p∈s.fJ->p.size<=10000
 ls:s.fM.length<=n
theorem SmN.sm{n:Nat}{s:Q2}(h:SmN n s)(hn:n<=100):Sm s:=⟨Nat.le_trans h.bd (by decide),Nat.le_trans h.pb (by decide),Nat.le_trans h.td (by decide),Nat.le_trans h.rn (by decide),by have:=h.pr;omega,λp hp=>Nat.le_trans (h.ps p hp) (by decide),by have:=h.ls;omega⟩
theorem smZ:SmN 8 Pb:=⟨by decide,by decide,by decide,by decide,by decide,λp hp=>(by cases hp),by decide⟩
theorem Vf.sK{s:Q2}(h:Vf s):SmN 8 s:=⟨by have:=h.bz;omega,by have:=h.pb;omega,by have:=h.td;omega,by have:=h.rn;omega,h.pl,λp hp=>by have:=h.ps p hp;omega,by have:=h.ll;omega⟩
def NB(l:List Qq):Prop:=l.length<=8/\∀n,n∈l->n.fG.size<=10000
theorem sR:NB []:=⟨Nat.zero_le _,λ_ h=>nomatch h⟩
theorem nb1{n:Qq}(h:n.fG.size<=10000):NB [n]:=⟨show 1<=8 by decide,(by grind)⟩
def PP(r:Q2×List Qq):Prop:=SmN 8 r.1/\NB r.2
def OP(x:Out):Prop:=∀r,x=.inl r->PP r
theorem OJ{x:Q2×List Qq}(h:PP x):OP (.inl x):=λ_ e=>Sum.inl.inj e▸h
theorem Hv{q:Bool×Int}:OP (.inr q):=λ_ e=>nomatch e
theorem JX{c:Prop}[Decidable c]{x y:Out}(hx:OP x)(hy:OP y):OP (if c then x else y):=by grind
theorem Qu6{c:Bool}{x y:Out}(hx:OP x)(hy:OP y):OP (bif c then x else y):=by grind
theorem uR(s:Q2)(b:ze)(h:Vf s)(hb:b.size<=4000):OP (Zv s b):=by
 have z:=h.sK
 have z5:=h.rn;unfold Zv;refine JX Hv (JX Hv (OJ ⟨⟨z.bd,z.pb,?_,z.rn,z.pr,z.ps,show 1<=8 by decide⟩,nb1 ?_⟩))
 ·grind [K6,ByteArray.size_append,F9,Jk,Uw]
 grind [ByteArray.size_append,F9,Uw]
theorem qX(s:Q2)(b:ze)(h:Vf s)(hb:b.size<=4000):OP (X7 s b):=by
 have z:=h.sK
 have z2:=h.bz
 have z3:=h.td
 have e1:(WH s b).size=s.fB.size+(4+b.size):=by unfold WH;rw[ByteArray.size_append,K6]
 have e2:(Hd s b).size=32+s.fh.size:=by unfold Hd;rw[ByteArray.size_append,X4]
 have e3:(WH s b++Jk 4 (Hd s b)).size<=10000:=by rw[ByteArray.size_append,K6];omega
 unfold X7;generalize WH s b++Jk 4 (Hd s b)=T at *
 generalize Hd s b=B at *
 generalize DW s b=M;refine JX Hv (JX Hv (JX Hv (JX Hv (OJ ⟨⟨z.bd,?_,e3,z.rn,z.pr,z.ps,show 1<=8 by decide⟩,(by grind [nb1])⟩))));show (b.extract 64 b.size).size<=10000;rw[ByteArray.size_extract];omega
theorem pJ(s:Q2)(b:ze)(h:Vf s)(hb:b.size<=4000):OP (JQ s b):=by
 have z:=h.sK
 have z3:=h.td;unfold JQ;refine JX Hv (JX Hv (OJ ⟨⟨z.bd,z.pb,?_,z.rn,z.pr,z.ps,show 0<=8 by decide⟩,sR⟩));grind [ByteArray.size_append,K6,Jk]
theorem eR(s:Q2)(f b:ze)(h:Vf s)(hb:b.size<=4000):OP (R3 s f b):=by
 have z:=h.sK
 have z2:=h.bz
 have z3:=h.td
 have z5:=h.rn
 have e1:(Dx s b).size=s.fB.size+(4+b.size):=by unfold Dx;rw[ByteArray.size_append,K6]
 have e2:(HZ s).size=s.fA.size+32+s.fh.size:=by grind [ByteArray.size_append,F9,HZ]
 have e3:(Dx s b++Jk 3 (HZ s)).size<=10000:=by rw[ByteArray.size_append,K6];omega
 unfold R3;have e4:(ZJ s.fX (f++b.extract 0 64)).size=32:=B4 _ _;generalize ZJ s.fX (f++b.extract 0 64)=M at *
 generalize Dx s b++Jk 3 (HZ s)=T at *
 generalize HZ s=B at *
 exact JX Hv (JX (JX Hv (OJ ⟨⟨z.bd,z.pb,z.td,z.rn,z.pr,z.ps,show 1<=8 by decide⟩,(by grind [nb1])⟩)) (OJ ⟨⟨z.bd,show 0<=10000 by decide,e3,z.rn,z.pr,z.ps,show 1<=8 by decide⟩,(by grind [nb1])⟩))
theorem hG(s:Q2)(b:ze)(h:Vf s)(hb:b.size<=4000):OP (G3 s b):=by
 have z:=h.sK
 have z3:=h.td
 have e1:(Mk s b).size=s.fB.size+(4+b.size):=by unfold Mk;rw[ByteArray.size_append,K6]
 have e2:(Hb s b).size=32:=X4 _ _ _
 have e3:(Mk s b++Jk 5 (Hb s b)).size<=10000:=by rw[ByteArray.size_append,K6];omega
 unfold G3;generalize Mk s b++Jk 5 (Hb s b)=T at *
 generalize Hb s b=C at *
 generalize L0 (Kg s b) Kp (s.fB++b.extract 32 b.size)=D;generalize Kg s b=M;refine JX Hv (JX Hv (JX Hv (JX Hv (JX Hv (OJ ⟨⟨z.bd,?_,e3,z.rn,z.pr,z.ps,show 1<=8 by decide⟩,(by grind [nb1])⟩)))));show (b.extract 32 b.size).size<=10000;rw[ByteArray.size_extract];omega
theorem Qev(s:Q2)(v:Q6)(h:Vf s)(hl:NB s.fM)(hb:v.fw=2->v.fP.fG.size<=4000):OP (HY s v):=by
 have z:=h.sK;unfold HY;split
 ·unfold UX;refine Qu6 (OJ ⟨⟨z.bd,z.pb,z.td,z.rn,z.pr,z.ps,show 1<=8 by decide⟩,nb1 ?_⟩) Hv;show (s.fA++Uw s).size<=10000;rw[ByteArray.size_append,F9,h.rn];decide
 split
 ·rename_i hk;have hb:=hb hk;unfold U6;exact JX (uR s _ h hb) (JX (qX s _ h hb) (JX (pJ s _ h hb) (JX (eR s _ _ h hb) (JX (hG s _ h hb) Hv))))
 split
 ·unfold MM;exact Qu6 (OJ ⟨z,sR⟩) (Qu6 Hv (OJ ⟨⟨z.bd,z.pb,z.td,z.rn,z.pr,z.ps,z.ls⟩,hl⟩))
 ·refine OJ ⟨z,?_⟩;grind [sR,NB]
theorem rW{s:Q2}(h:QY s=true):NB s.fM:=by
 unfold QY at h;simp only[zF] at h;obtain⟨x,_,hl⟩:=List.any_eq_true.1 h.2;unfold F7 at hl;simp only[zF] at hl;have l8:=hl.q.2.2.2;unfold V4 at l8;split at l8
 ·simp_all [zI,List.eq_nil_of_length_eq_zero,sR]
 ·split at l8
  ·rename_i hq;rw[hq];unfold B1 at l8;simp only[zF,zI] at l8;exact nb1 (by omega)
  ·cases l8
theorem oS(s:Q2)(v:Q6):SmN 8 (J1 s v).1/\NB (J1 s v).2.1:=by
 unfold J1;cases hv:QY s with
 | false=>exact⟨smZ,sR⟩
 | true=>
  cases he:Bp s v with
  | false=>exact⟨smZ,sR⟩
  | true=>
   have vf:=L7 hv;unfold Bp at he;simp only[zF,zI] at he;obtain⟨k1,k2,k3,k4,k5,k6⟩:=he
   have nw:=vf.nw
   have hnw:P9 v.fk=true:=by
    unfold P9 at nw ⊢;grind
   have vf2:=vf.at hnw
   have key:=Qev { s with fk:=v.fk } v vf2 (show NB s.fM from rW hv) λh2=>by
    rw[h2] at k6;have k6:B1 v.fP=true:=k6;unfold B1 at k6;grind
   rw[cond_true,cond_true];generalize HY { s with fk:=v.fk } v=E at *
   match E,key with
   | .inl r,key=>exact key r rfl
   | .inr (true,e),_=>have z:=vf2.sK;exact⟨⟨z.bd,show 0<=10000 by decide,show 0<=10000 by decide,z.rn,z.pr,z.ps,show 0<=8 by decide⟩,sR⟩
   | .inr (false,e),_=>exact⟨smZ,sR⟩
theorem Vn(s:Q2){n:Nat}(h:SmN n s)(hn:n<=100):Qj (jV s s) (λr=>r=true):=by
 unfold jV;refine Qj.fn ?_;unfold g25;have z1:=h.pr;have z2:=h.ls;refine Ok.n (R:=λc=>c=false) (by grind [Ok.f,Ok.c,gE,Ok.d]) λc hc=>?_;subst hc;refine Ok.f rfl (Ok.p (R:=Sum.elim (λ_=>False) (λ_=>True)) ?_ (λe he=>he.elim) λe _=>?_)
 ·refine Ok.s s.fJ.length (by omega) (λk y=>y=(k:Int)) rfl (λk y hy hk=>?_) λy hy=>?_
  ·subst hy;obtain⟨x,hx,hx'⟩:=L9 (l:=s.fJ) (k:=k) hk;grind [Ok.t,I8,Ok.r,Ok.f,Ok.d,Z8]
  ·subst hy;exact Ok.f (by rw[I8];simp) (Ok.d trivial)
 ·refine Ok.n (R:=λc=>c=true) ?_ λc hc=>Ok.d hc
  repeat' first
   | refine Ok.d ?_
   | refine Ok.t ?_ ?_
  all_goals simp
theorem DN(k n:Int):Qj (Hf k n) (λr=>r.size=32):=by
 unfold Hf;refine Qj.fn ?_;unfold g43;refine Ok.b (R:=λe=>e.size=32) ?_ λe he=>Ok.d he;refine Ok.s 32 (by decide) (λk y=>y.1.size=k/\y.2=(k:Int)) ⟨rfl,rfl⟩ (λk y hy hk=>?_) λy hy=>?_
 ·obtain⟨h1,h2⟩:=hy;refine Ok.t (by grind) (Ok.k (by rw[zI,E5];grind) (Ok.d ⟨?_,?_⟩))
  ·grind [ByteArray.size_append,E5,strOfNums]
  grind [Z2,Q0]
 grind [Ok.f,Ok.d]
def GK(d:QE):Prop:=(0<=d.fC.a0/\d.fC.a0<=65535)/\(0<=d.fC.a1/\d.fC.a1<=65535)/\0<=d.gd.a0/\0<=d.gd.a1
theorem four(a:Int)(h:0<=a):Int.tmod a 4=0\/Int.tmod a 4=1\/Int.tmod a 4=2\/Int.tmod a 4=3:=by
 grind
def L8(k n:Int):ze:=(Hf k n).o.getD zg
theorem JE(k n:Int):Qj (Hf k n) (λr=>r=L8 k n):=by
 obtain⟨r,h1,_⟩:=DN k n;exact⟨r,h1,by grind [L8]⟩
theorem F2(k n:Int):(L8 k n).size=32:=by
 obtain⟨r,h1,h2⟩:=DN k n;grind [L8]
attribute [irreducible] L8
def Yx(side:Int)(k u:Int):Z5:=⟨if side=0 then bs [99,108,105,101,110,116] else bs [115,101,114,118,101,114,46,101,120,97,109,112,108,101],P0 (L8 k side),0,u,side⟩
theorem Qoa(k u:Int):Yx 0 k u=⟨bs [99,108,105,101,110,116],xS (L8 k 0) V2,0,u,0⟩:=by unfold Yx P0;grind
theorem Qox(k u:Int):Yx 1 k u=⟨bs [115,101,114,118,101,114,46,101,120,97,109,112,108,101],xS (L8 k 1) V2,0,u,1⟩:=by simp_all [if_neg,Yx,P0]
theorem Km{side k u:Int}(hs:side=0\/side=1)(hu:0<=u/\u<=65535):G5 (Yx side k u)=true:=by
 have z:=Uh (L8 k side)
 have n1:B3 (bs [99,108,105,101,110,116])=true:=by kernel_rfl
 have n2:B3 (bs [115,101,114,118,101,114,46,101,120,97,109,112,108,101])=true:=by kernel_rfl
 unfold G5 Yx;grind
theorem rO:((List.range 256).all λc=>HQ (Tz (c:Int))&&HQ (CL (c:Int)))=true:=by decide +kernel
theorem Qyi{c:Int}(h:0<=c/\c < 256):HQ (Tz c)=true/\HQ (CL c)=true:=by
 obtain⟨n,rfl⟩:=Int.eq_ofNat_of_zero_le h.1;grind [List.all_eq_true,rO]
theorem tW:∀l:List Int,∀c,c∈HH l->0<=c/\c < 256:=by
 intro l;induction l with
 | nil=>grind [HH]
 | cons x l ih=>
  cases l with
  | nil=>
   intro c hc;simp only[HH,zR,zZ,or_false] at hc;rcases hc with rfl|rfl<;>exact D1 _ _
  | cons y l=>
   intro c hc;simp only[HH,zR] at hc;rcases hc with rfl|rfl|rfl|hc
   ·exact D1 _ _
   ·exact D1 _ _
   ·decide
   grind
theorem ER{s:ze}(hz:s.size=32):YX (M8 s)=true:=by
 have hl:(Q3 s).length=32:=by rw[U1,hz]
 have hS:Q3 (M8 s)=Q3 V5++HH (Q3 s):=by unfold M8;rw[UN,N1 (tW _)]
 have hSz:(M8 s).size=103:=by rw[<-E4,hS,wW,Fw,hl];rfl
 have at8:∀i:Nat,i < 95->some (QZ (M8 s) ((8+i:Nat):Int))=(HH (Q3 s))[i]?:=λi hi=>by
  rw[<-P7 (s:=M8 s) (k:=8+i) (by omega),hS,wz (by rw[E4];show 8<=_;omega)];rw[E4,show 8+i - V5.size=i from by show 8+i - 8=i;omega]
 unfold YX;rw[we hSz,Bool.true_and,zF,zI,zJ];refine⟨by unfold M8;exact VP rfl,λi hi=>?_⟩;have hi:i < 95:=by simpa using hi
 have h1:=at8 i hi
 have hg:(Q3 s)[i / 3]?=some (QZ s ((i / 3:Nat):Int)):=P7 (by omega);obtain⟨g0,g1,g2⟩:=Fk (Q3 s) (i / 3) _ hg
 have hx:=Qyi (D1 s ((i / 3:Nat):Int));unfold VA;by_cases c2:i % 3=2
 ·grind
 ·rw[if_neg c2];by_cases c0:i % 3=0
  ·grind
  grind
def Of(A:Int)(o q:ze):List ze:=if A=0 then [q] else if A=1 then [o,q] else if A=2 then [o] else []
def FY(k:Int):ze:=M8 (L8 k 7)
def Oh(b:Z5):ze:=M8 (UD (K5 b))
def D0(d:QE):Ends where
 sc:=L8 d.fD.a0 0
 bc:=K5 (Yx 0 d.fD.a0 d.fC.a0)
 fc:=L8 d.fD.a0 2
 rc:=L8 d.fD.a0 4
 pc:=Of (Int.tmod d.gd.a0 4) (FY d.fD.a0) (Oh (Yx 1 d.fD.a1 d.fC.a1))
 ss:=L8 d.fD.a1 1
 bv:=K5 (Yx 1 d.fD.a1 d.fC.a1)
 fs:=L8 d.fD.a1 3
 rs:=L8 d.fD.a1 5
 ck:=L8 d.fD.a1 5
 pv:=Of (Int.tmod d.gd.a1 4) (FY d.fD.a0) (Oh (Yx 0 d.fD.a0 d.fC.a0))
 n:=d.gc
def Xh(d:QE):Prop:=GK d/\0<=d.gc/\d.gc<=65535
theorem FZ{A:Int}{o q:ze}(ho:YX o=true)(hq:YX q=true):Kl { Pb with fJ:=Of A o q }=true:=by
 grind [Kl,Of]
theorem CE{side:Int}{sec bdg fr rn ck:ze}{ps:List ze}{n:Int}(hs:side=1\/side=2)(h1:sec.size=32)(h2:fr.size=32)(h3:rn.size=32)(hk:if side=2 then ck.size=32 else ck=zg)(hb:okB bdg=true)(hp:Kl { Pb with fJ:=ps }=true)(hn:0<=n/\n<=65535):QY (Jm side sec bdg fr rn ck ps n)=true:=by
 refine C1 ((E1 _).2 ⟨N8.2 (show 0<=n/\n<=1099511627776 by omega),JJ h1,JJ h2,JJ h3,?_,hp,hb,Fz,rfl⟩) ?_
 ·show UQ (Jm side sec bdg fr rn ck ps n)=true;unfold UQ Jm;split at hk
  ·simp_all [if_pos,JJ]
  ·rename_i h;rw[if_neg h,hk];rfl
 ·rcases hs with rfl|rfl
  ·exact F6 ⟨1,1,0,0,0,0,0,false⟩ (by simp[Y6]) ⟨rfl,rfl,(show (0:Int)<=0 by decide),(show (0:Int)<=0 by decide),rfl,rfl,MP rfl rfl,Wi rfl⟩
  ·exact F6 ⟨2,1,0,0,0,0,0,false⟩ (by simp[Y6]) ⟨rfl,rfl,(show (0:Int)<=0 by decide),(show (0:Int)<=0 by decide),rfl,rfl,MP rfl rfl,Wi rfl⟩
theorem XU(b:Z5):YX (Oh b)=true:=ER (ED _)
theorem Di(d:QE)(h:Xh d):R8 (D0 d):=by
 obtain⟨⟨u1,u2,_⟩,hb⟩:=h;have v0:=Km (side:=0) (k:=d.fD.a0) (.inl rfl) u1;have v1:=Km (side:=1) (k:=d.fD.a1) (.inr rfl) u2;have po:YX (FY d.fD.a0)=true:=ER (F2 _ _);refine⟨?_,?_,?_,?_⟩
 ·exact CE (side:=1) (sec:=(D0 d).sc) (bdg:=(D0 d).bc) (fr:=(D0 d).fc) (rn:=(D0 d).rc) (ck:=zg) (ps:=(D0 d).pc) (n:=(D0 d).n) (.inl rfl) (F2 d.fD.a0 0) (F2 d.fD.a0 2) (F2 d.fD.a0 4) (by grind) (Mx v0).1 (FZ po (XU _)) hb
 ·exact CE (side:=2) (sec:=(D0 d).ss) (bdg:=(D0 d).bv) (fr:=(D0 d).fs) (rn:=(D0 d).rs) (ck:=(D0 d).ck) (ps:=(D0 d).pv) (n:=(D0 d).n) (.inr rfl) (F2 d.fD.a1 1) (F2 d.fD.a1 3) (F2 d.fD.a1 5) (by rw[if_pos rfl];exact F2 d.fD.a1 5) (Mx v1).1 (FZ po (XU _)) hb
 ·show (Zj (K5 (Yx 0 d.fD.a0 d.fC.a0))).fI=_;rw[(Mx v0).2];rfl
 ·show (Zj (K5 (Yx 1 d.fD.a1 d.fC.a1))).fI=_;rw[(Mx v1).2];rfl
theorem VQ(d:QE)(hu:GK d):Qj (s41 d) (λr=>r.a0=Yx 0 d.fD.a0 d.fC.a0/\r.a1=Yx 1 d.fD.a1 d.fC.a1):=by
 unfold s41;refine Qj.fn ?_;unfold g41;obtain⟨u1,u2,_⟩:=hu;have w1:Q0 d.fC.a0=d.fC.a0:=Z2 (by omega) (by omega);have w2:Q0 d.fC.a1=d.fC.a1:=Z2 (by omega) (by omega);refine Ok.tt (Ok.c (JE _ _) λr1 h1=>Ok.c AO λr2 h2=>Ok.c (SI r1 r2 (by rw[h1];exact F2 _ _) (by rw[h2];exact WT)) λr3 h3=>Ok.tt (Ok.c (JE _ _) λr4 h4=>Ok.c AO λr5 h5=>Ok.c (SI r4 r5 (by rw[h4];exact F2 _ _) (by rw[h5];exact WT)) λr6 h6=>Ok.ff (Ok.d ⟨?_,?_⟩)))
 ·grind [Qoa,bs,Q0]
 grind [Qox,bs,Q0]
theorem Qwi{side now:Int}{sec bdg fr rn ck k:ze}{ps:List ze}(h:QY (Jm side sec bdg fr rn ck ps now)=true)(h1:(Zj bdg).fI=k)(h2:xS sec V2=k):FP side sec bdg fr rn ck ps now=(Jm side sec bdg fr rn ck ps now,0):=by
 unfold FP;rw[h,h1,h2,we rfl];rfl
theorem Yq{a1 a2 a3 a4 a5:Nat}{k1 n1 k2 n2 k3 n3 side now:Int}{b:Z5}{ck:ze}{ps:List ze}{Q:Q2->Prop}(hv:G5 b=true)(hf:QY (Jm side (L8 k1 n1) (K5 b) (L8 k2 n2) (L8 k3 n3) ck ps now)=true)(hk:(Zj (K5 b)).fI=P0 (L8 k1 n1))(hq:Q (Jm side (L8 k1 n1) (K5 b) (L8 k2 n2) (L8 k3 n3) ck ps now)) :
  Ok (.call a1 (Hf k1 n1) [] [] λr=>.call a2 (TG b) [] [] λr2=>.call a3 (Hf k2 n2) [] [] λr3=>.call a4 (Hf k3 n3) [] [] λr4=>.call a5 (iT side r r2 r3 r4 ck ps now) [] [] λx=>.done x.1:TT Q2) Q:=by
 refine Ok.c (JE _ _) λr h=>Ok.c (AG b hv) λr2 h2=>Ok.c (JE _ _) λr3 h3=>Ok.c (JE _ _) λr4 h4=>?_;subst h;subst h2;subst h3;subst h4;refine Ok.c (kF side _ _ _ _ ck ps now (L7 hf).sm) λx hx=>Ok.d ?_;have e:FP side (L8 k1 n1) (K5 b) (L8 k2 n2) (L8 k3 n3) ck ps now=(Jm side (L8 k1 n1) (K5 b) (L8 k2 n2) (L8 k3 n3) ck ps now,0):=by
  exact Qwi hf hk rfl
 grind
theorem kA(d:QE)(h:Xh d):Qj (s15 d) (λr=>r.a0=pZ (D0 d)/\r.a1=qP (D0 d)):=by
 have ff:=Di d h;obtain⟨hu,hb⟩:=h;obtain⟨u1,u2,u3,u4⟩:=id hu
 have v0:=Km (side:=0) (k:=d.fD.a0) (.inl rfl) u1
 have v1:=Km (side:=1) (k:=d.fD.a1) (.inr rfl) u2;unfold s15;refine Qj.fn ?_;unfold g15;rw[Z2 (n:=d.gc) (by omega) (by omega)]
 have f0:=four _ u3
 have f1:=four _ u4
 have p0:(D0 d).pc=Of (Int.tmod d.gd.a0 4) (FY d.fD.a0) (Oh (Yx 1 d.fD.a1 d.fC.a1)):=rfl
 have p1:(D0 d).pv=Of (Int.tmod d.gd.a1 4) (FY d.fD.a0) (Oh (Yx 0 d.fD.a0 d.fC.a0)):=rfl
 have q0:∀ps,ps=(D0 d).pc->Jm 1 (L8 d.fD.a0 0) (K5 (Yx 0 d.fD.a0 d.fC.a0)) (L8 d.fD.a0 2) (L8 d.fD.a0 4) zg ps d.gc=pZ (D0 d):=λps e=>by rw[e];rfl
 have q1:∀ps,ps=(D0 d).pv->Jm 2 (L8 d.fD.a1 1) (K5 (Yx 1 d.fD.a1 d.fC.a1)) (L8 d.fD.a1 3) (L8 d.fD.a1 5) (L8 d.fD.a1 5) ps d.gc=qP (D0 d):=λps e=>by rw[e];rfl
 have kc:(Zj (K5 (Yx 0 d.fD.a0 d.fC.a0))).fI=P0 (L8 d.fD.a0 0):=ff.kc
 have ks:(Zj (K5 (Yx 1 d.fD.a1 d.fC.a1))).fI=P0 (L8 d.fD.a1 1):=ff.ks
 have fc:=ff.c
 have fs:=ff.s;generalize D0 d=E at p0 p1 q0 q1 fc fs ⊢;generalize Int.tmod d.gd.a0 4=A at *
 generalize Int.tmod d.gd.a1 4=B at *
 refine Ok.c (VQ d hu) λbg hb2=>Ok.c (JE _ _) λr1 h1=>?_;subst h1;obtain⟨g0,g1⟩:=hb2;refine Ok.c (Mm _ (by rw[F2];decide)) λo ho=>?_;have ho:o=FY d.fD.a0:=ho;subst ho;rw[g0,g1];refine Ok.tt (Ok.b (R:=λe=>e=pZ E) ?_ λe he=>Ok.tt (Ok.b (R:=λe=>e=qP E) ?_ (by grind [Ok.ff,Ok.d])))
 ·refine Ok.c (AF _ v1) λq hq=>?_;have hq:q=Oh (Yx 1 d.fD.a1 d.fC.a1):=hq;subst hq;rcases f0 with rfl|rfl|rfl|rfl
  ·exact Ok.HU rfl (Ok.ff (Ok.g (Yq v0 ((congrArg QY (q0 _ p0.symm)).trans fc) kc (q0 _ p0.symm))))
  ·exact Ok.HU rfl (Ok.ff (Ok.g (Yq v0 ((congrArg QY (q0 _ p0.symm)).trans fc) kc (q0 _ p0.symm))))
  ·exact Ok.HU rfl (Ok.ff (Ok.g (Yq v0 ((congrArg QY (q0 _ p0.symm)).trans fc) kc (q0 _ p0.symm))))
  ·exact Ok.HU rfl (Ok.ff (Yq v0 ((congrArg QY (q0 _ p0.symm)).trans fc) kc (q0 _ p0.symm)))
 ·refine Ok.c (AF _ v0) λq hq=>?_;have hq:q=Oh (Yx 0 d.fD.a0 d.fC.a0):=hq;subst hq;rcases f1 with rfl|rfl|rfl|rfl
  ·refine Ok.HU rfl (Ok.tt (Ok.c (JE _ _) λr hr=>?_));subst hr;exact Ok.g (Yq v1 ((congrArg QY (q1 _ p1.symm)).trans fs) ks (q1 _ p1.symm))
  ·refine Ok.HU rfl (Ok.tt (Ok.c (JE _ _) λr hr=>?_));subst hr;exact Ok.g (Yq v1 ((congrArg QY (q1 _ p1.symm)).trans fs) ks (q1 _ p1.symm))
  ·refine Ok.HU rfl (Ok.tt (Ok.c (JE _ _) λr hr=>?_));subst hr;exact Ok.g (Yq v1 ((congrArg QY (q1 _ p1.symm)).trans fs) ks (q1 _ p1.symm))
  ·refine Ok.HU rfl (Ok.tt (Ok.c (JE _ _) λr hr=>?_));subst hr;exact Yq v1 ((congrArg QY (q1 _ p1.symm)).trans fs) ks (q1 _ p1.symm)
end Go.Proofs.YtjdieimefebnfaaGreatDoor
