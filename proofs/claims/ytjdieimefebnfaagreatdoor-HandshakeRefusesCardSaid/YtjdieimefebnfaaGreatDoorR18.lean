/- A handshake of two ends that nothing disturbs, step by step. A meeting: what happens to a side, and what is told. Sizes of the handshakes that the la ..; no conditions. -/
import Derived.Test.YtjdieimefebnfaaGreatDoorR15
import Derived.Test.YtjdieimefebnfaaGreatDoorR17
import Derived.Test.YtjdieimefebnfaaGreatDoorR11
import Derived.KernelRfl
set_option linter.unusedVariables false
set_option linter.unusedSimpArgs false
set_option maxRecDepth 100000
noncomputable section
namespace Go.Proofs.YtjdieimefebnfaaGreatDoor
open Go Go.EV Crv
theorem iW{s:Q2}{v:Q6}(hs:QZ s=true)(hk:1<=v.fw/\v.fw<=4)(hn:v.fk=s.fk)(hf:v.fC.size<=64)(hb:v.fw=2->B3 v.fO=true):U3 s v=Oi s (HY s v):=by
 have e:({ s with fk:=v.fk }:Q2)=s:=by rw[hn]
 have f:=P8.1 ((M5 s).1 (P5 hs).1).nw;rw[yG hs,e];unfold dM;grind
theorem gP{k q:Int}{b:ze}(hk:0<=k/\k<=255)(hq:0<=q/\q < 65536)(hb:b.size<=4000):B3 ⟨k,q,b⟩=true:=by
 unfold B3;grind
theorem VY{x y:ze}{n:Nat}(h:x.size=n):(x++y).extract 0 n=x:=by subst h;exact ByteArray.extract_append_eq_left rfl
theorem Qjk{x y:ze}{n m:Nat}(h:x.size=n)(hm:m=n+y.size):(x++y).extract n m=y:=by
 subst h;subst hm;exact ByteArray.extract_append_eq_right rfl rfl
theorem Qee{x y z:ze}{n m:Nat}(hx:x.size=n)(hy:y.size=m - n)(_:n<=m):(x++y++z).extract n m=y:=by
 rw[ByteArray.append_assoc,ByteArray.extract_append];have h1:x.extract n m=zg:=by
  simp_all
 rw[h1,ByteArray.empty_append,hx,Nat.sub_self];exact VY (by omega)
structure Ends where
 sc:ze
 bc:ze
 fc:ze
 rc:ze
 pc:List ze
 ss:ze
 bv:ze
 fs:ze
 rs:ze
 ck:ze
 pv:List ze
 n:Int
variable (p:Ends)
def Yw:ze:=bs [102,97,114]
def dG:Q2:=Je 1 p.sc p.bc p.fc p.rc zg p.pc p.n
def qQ:Q2:=Je 2 p.ss p.bv p.fs p.rs p.ck p.pv p.n
def eH:ze:=p.rc++P0 p.fc
def eK:ze:=ZU p.ck (Yw++eH p)
def sP:Q2:=MX (dG p) 2 1 (eH p)
def dF:Q2:=MX (qQ p) 1 2 (eK p)
def CX:Q2:={ MX (sP p) 3 1 (eH p++eK p) with fD:=Jm 1 (eH p++eK p) }
def eA:ze:=p.rs++P0 p.fs++p.bv
def eT:ze:=Jm 1 (eH p++eK p)++Jm 3 (eA p)
def Bw:Q2:={ MX (dF p) 4 3 (eA p) with fj:=⟨p.rc,P0 p.fc,zg⟩,fD:=eT p }
def eM:ze:=FM (xS p.fc (P0 p.ss)) (xS p.sc (P0 p.fs)) p.rc p.rs
def eB:ze:=O7 (eM p) Ks (eT p++p.bc)++p.bc
def eC3:Q2:={ MX (CX p) 5 4 (eB p) with fj:=⟨p.rs,P0 p.fs,p.bv⟩,fF:=eM p,fD:=eT p++Jm 4 (eB p) }
def eD:ze:=O7 (eM p) DC (eT p++Jm 4 (eB p))
def eS3:Q2:={ MX (Bw p) 6 5 (eD p) with fj:=⟨p.rc,P0 p.fc,p.bc⟩,fF:=eM p,fD:=eT p++Jm 4 (eB p)++Jm 5 (eD p) }
def eC4:Q2:={ eC3 p with fD:=eT p++Jm 4 (eB p)++Jm 5 (eD p),fo:=6,fM:=[],fy:=oW }
structure N9:Prop where
 c:QZ (dG p)=true
 s:QZ (qQ p)=true
 kc:(QI p.bc).fH=P0 p.sc
 ks:(QI p.bv).fH=P0 p.ss
def Pw(k q:Int)(b:ze):Q6:=⟨2,p.n,Yw,⟨k,q,b⟩⟩
def aC:Int:=T8 (QI p.bv) p.pc p.n
def aS:Int:=T8 (QI p.bc) p.pv p.n
section
variable {p}
theorem N9.zc(h:N9 p):p.sc.size=32/\p.fc.size=32/\p.rc.size=32/\okB p.bc=true:=by
 have v:=G4 h.c;exact⟨v.sc,v.fr,v.rn,v.bd⟩
theorem N9.zs(h:N9 p):p.ss.size=32/\p.fs.size=32/\p.rs.size=32/\okB p.bv=true:=by
 have v:=G4 h.s;exact⟨v.sc,v.fr,v.rn,v.bd⟩
theorem N9.zH(h:N9 p):(eH p).size=64:=by unfold eH;rw[ByteArray.size_append,Uk,h.zc.2.2.1]
theorem zK:(eK p).size=32:=B5 _ _
theorem N9.zHK(h:N9 p):(eH p++eK p).size=96:=by rw[ByteArray.size_append,h.zH,zK]
theorem N9.zA(h:N9 p):(eA p).size=64+p.bv.size:=by unfold eA;rw[ByteArray.size_append,ByteArray.size_append,Uk,h.zs.2.2.1]
theorem zEB:(eB p).size=32+p.bc.size:=by unfold eB;rw[ByteArray.size_append,X2]
theorem Tl{s:Q2}{k q:Int}{b:ze}(hs:QZ s=true)(hn:s.fk=p.n)(hk:0<=k/\k<=255)(hq:0<=q/\q < 65536)(hb:b.size<=4000):U3 s (Pw p k q b)=Oi s (H5 s Yw ⟨k,q,b⟩):=
 iW hs (show (1:Int)<=2/\(2:Int)<=4 by decide) hn.symm (by decide:Yw.size<=64) λ_=>gP hk hq hb
theorem Qyk{s:Q2}{f b:ze}{q:Int}(h1:s.fq=1)(h2:s.fo=2\/s.fo=3):H5 s f ⟨2,q,b⟩=ZQ s b:=by
 unfold H5;rw[if_pos (show s.fq=1/\(s.fo=2\/s.fo=3)/\(2:Int)=2 from⟨h1,h2,rfl⟩)]
theorem Qyw{s:Q2}{f b:ze}{q:Int}(h1:s.fq=1)(h2:s.fo=3):H5 s f ⟨3,q,b⟩=X5 s b:=by
 unfold H5;rw[if_neg (show ¬(s.fq=1/\(s.fo=2\/s.fo=3)/\(3:Int)=2) from λx=>absurd x.2.2 (by decide)),if_pos (show s.fq=1/\s.fo=3/\(3:Int)=3 from⟨h1,h2,rfl⟩)]
theorem Qyu{s:Q2}{f b:ze}{q:Int}(h1:s.fq=1)(h2:s.fo=5):H5 s f ⟨5,q,b⟩=JQ s b:=by
 unfold H5;rw[if_neg (show ¬(s.fq=1/\(s.fo=2\/s.fo=3)/\(5:Int)=2) from λx=>absurd x.2.2 (by decide)),if_neg (show ¬(s.fq=1/\s.fo=3/\(5:Int)=3) from λx=>absurd x.2.2 (by decide)),if_pos (show s.fq=1/\s.fo=5/\(5:Int)=5 from⟨h1,h2,rfl⟩)]
theorem mP{s:Q2}{f b:ze}{q:Int}(h1:s.fq=2)(h2:s.fo=1):H5 s f ⟨1,q,b⟩=R3 s f b:=by
 unfold H5;rw[if_neg (λx=>absurd (h1.symm.trans x.1) (by decide)),if_neg (λx=>absurd (h1.symm.trans x.1) (by decide)),if_neg (λx=>absurd (h1.symm.trans x.1) (by decide)),if_pos (show s.fq=2/\s.fo=1/\(1:Int)=1 from⟨h1,h2,rfl⟩)]
theorem Qyh{s:Q2}{f b:ze}{q:Int}(h1:s.fq=2)(h2:s.fo=4):H5 s f ⟨4,q,b⟩=F8 s b:=by
 unfold H5;rw[if_neg (λx=>absurd (h1.symm.trans x.1) (by decide)),if_neg (λx=>absurd (h1.symm.trans x.1) (by decide)),if_neg (λx=>absurd (h1.symm.trans x.1) (by decide)),if_neg (show ¬(s.fq=2/\s.fo=1/\(4:Int)=1) from λx=>absurd x.2.2 (by decide)),if_pos (show s.fq=2/\s.fo=4/\(4:Int)=4 from⟨h1,h2,rfl⟩)]
theorem OU(h:N9 p)(f:ze)(hf:f.size<=64)(n:Z0):U3 (dG p) ⟨1,p.n,f,n⟩=(sP p,[⟨1,0,eH p⟩],0):=by
 rw[iW h.c (by decide:(1:Int)<=1/\(1:Int)<=4) rfl hf (by grind)];rfl
theorem N9.c1(h:N9 p):QZ (sP p)=true:=by
 have e:=OU h Yw (by decide) ⟨0,0,zg⟩;grind [R8,s,dG,Yw,ByteArray.empty]
theorem Qqz(h:N9 p):U3 (qQ p) (Pw p 1 0 (eH p))=(dF p,[⟨2,0,eK p⟩],0):=by
 have zh:=h.zH;rw[Tl h.s rfl (by decide) (by decide) (by omega),mP rfl rfl]
 have e0:(eH p).extract 0 64=eH p:=by grind [ByteArray.extract_zero_size]
 have e1:(eH p).extract 64 (eH p).size≠ZU p.ck (Yw++eH p):=λe=>by
  have:=congrArg ByteArray.size e;grind [B5,ByteArray.size_extract]
 unfold R3;rw[if_neg (by omega),e0,if_pos (show (eH p).extract 64 (eH p).size≠ZU (qQ p).gb (Yw++eH p) from e1),if_neg (show ¬¬(qQ p).fm < 6 from λx=>x (show (0:Int) < 6 by decide))];rfl
theorem N9.s1(h:N9 p):QZ (dF p)=true:=by
 have:=R8 (s:=qQ p) (v:=Pw p 1 0 (eH p)) (by rw[Qqz h]);rwa [Qqz h] at this
theorem Qqq(h:N9 p):U3 (sP p) (Pw p 2 0 (eK p))=(CX p,[⟨1,1,eH p++eK p⟩],0):=by
 rw[Tl h.c1 rfl (by decide) (by decide) (by rw[zK];decide),Qyk rfl (.inl rfl)];unfold ZQ;rw[if_neg (by grind [zK,eK]),if_neg (show ¬¬(sP p).fm < 7 from λx=>x (show (0+1:Int) < 7 by decide))];rfl
theorem N9.c2(h:N9 p):QZ (CX p)=true:=by
 have:=R8 (s:=sP p) (v:=Pw p 2 0 (eK p)) (by rw[Qqq h]);rwa [Qqq h] at this
theorem lH(h:N9 p):U3 (dF p) (Pw p 1 1 (eH p++eK p))=(Bw p,[⟨3,1,eA p⟩],0):=by
 have zh:=h.zH
 have z:=h.zHK;rw[Tl h.s1 rfl (by decide) (by decide) (by omega),mP rfl rfl]
 have e0:(eH p++eK p).extract 0 64=eH p:=VY zh
 have e1:(eH p++eK p).extract 64 (eH p++eK p).size=eK p:=Qjk zh (by grind)
 have e2:(eH p++eK p).extract 0 32=p.rc:=by unfold eH;rw[ByteArray.append_assoc];exact VY h.zc.2.2.1
 have e3:(eH p++eK p).extract 32 64=P0 p.fc:=by grind [Qee,Uk,eH]
 unfold R3;rw[if_neg (by omega),e0,e1,if_neg (show ¬eK p≠ZU (dF p).gb (Yw++eH p) from λx=>x rfl),e2,e3];have e4:Dj (dF p) (eH p++eK p)++Jm 3 (HZ (dF p))=eT p:=by
  show zg++Jm 1 (eH p++eK p)++Jm 3 (eA p)=_;rw[ByteArray.empty_append];rfl
 show (({ MX (dF p) 4 3 (eA p) with fj:=⟨p.rc,P0 p.fc,zg⟩,fD:=Dj (dF p) (eH p++eK p)++Jm 3 (HZ (dF p)) }:Q2),[(⟨3,1,eA p⟩:Z0)],(0:Int))=_;rw[e4];rfl
theorem N9.s2(h:N9 p):QZ (Bw p)=true:=by
 have:=R8 (s:=dF p) (v:=Pw p 1 1 (eH p++eK p)) (by rw[lH h]);rwa [lH h] at this
theorem dB(a b:ze):xS a (P0 b)≠MZ:=(by grind [Qeb,LU,P0])
theorem lU(h:N9 p):U3 (CX p) (Pw p 3 1 (eA p))=if aC p≠0 then (Yt (CX p) (aC p),[],0) else (eC3 p,[⟨4,2,eB p⟩],0):=by
 have za:=h.zA
 have bz:=T0 h.zs.2.2.2;rw[Tl h.c2 rfl (by decide) (by decide) (by omega),Qyw rfl rfl]
 have z2:(p.rs++P0 p.fs).size=64:=by rw[ByteArray.size_append,Uk,h.zs.2.2.1]
 have e1:(eA p).extract 64 (eA p).size=p.bv:=by grind [Qjk,ByteArray.size_append,eA]
 have e2:(eA p).extract 0 32=p.rs:=by unfold eA;rw[ByteArray.append_assoc];exact VY h.zs.2.2.1
 have e3:(eA p).extract 32 64=P0 p.fs:=by grind [Qee,Uk,eA]
 have eM':Dr (CX p) (eA p)=eM p:=by
  unfold Dr;rw[e1,e2,e3,h.ks];rfl
 have eT':WW (CX p) (eA p)=eT p:=rfl
 have eB':Hd (CX p) (eA p)=eB p:=by unfold Hd;rw[eM',eT'];rfl
 unfold X5;rw[if_neg (by omega),e1,if_neg (by rw[h.zs.2.2.2];decide)];show Oi (CX p) (if aC p≠0 then _ else _)=_;by_cases ha:aC p≠0
 ·rw[if_pos ha,if_pos ha];rfl
 rw[if_neg ha,if_neg ha,h.ks,e3,if_neg (by grind [dB,xS,CX,P0,MZ]),eM',eB',eT',e2];rfl
theorem Qjl(h:N9 p):FM (xS p.ss (P0 p.fc)) (xS p.fs (P0 p.sc)) p.rc p.rs=eM p:=by
 grind [rG,eM]
theorem lJ(h:N9 p):U3 (Bw p) (Pw p 4 2 (eB p))=if aS p≠0 then (Yt (Bw p) (aS p),[],0) else (eS3 p,[⟨5,2,eD p⟩],0):=by
 have zb:=zEB (p:=p)
 have bz:=T0 h.zc.2.2.2;rw[Tl h.s2 rfl (by decide) (by decide) (by omega),Qyh rfl rfl]
 have e1:(eB p).extract 32 (eB p).size=p.bc:=by grind [Qjk,X2,ByteArray.size_append,eB]
 have e2:(eB p).extract 0 32=O7 (eM p) Ks (eT p++p.bc):=by grind [VY,X2,eB]
 have eM':Kn (Bw p) (eB p)=eM p:=by
  unfold Kn;rw[e1,h.kc];exact Qjl h
 have eT':Me (Bw p) (eB p)=eT p++Jm 4 (eB p):=rfl
 have eC':Hb (Bw p) (eB p)=eD p:=by unfold Hb;rw[eM',eT'];rfl
 unfold F8;rw[if_neg (by omega),e1,if_neg (by rw[h.zc.2.2.2];decide)];show Oi (Bw p) (if aS p≠0 then _ else _)=_;by_cases ha:aS p≠0
 ·rw[if_pos ha,if_pos ha];rfl
 rw[if_neg ha,if_neg ha,h.kc,if_neg (by grind [dB,xS,Bw,MZ,P0]),eM',e2,if_neg (show ¬O7 (eM p) Ks (eT p++p.bc)≠O7 (eM p) Ks ((Bw p).fD++p.bc) from λx=>x rfl),eC',eT'];rfl
theorem N9.c3(h:N9 p)(ha:aC p=0):QZ (eC3 p)=true:=by
 have e:=lU h;rw[if_neg (λx=>x ha)] at e;grind [R8,s,CX,Pw,eA]
theorem N9.s3(h:N9 p)(ha:aS p=0):QZ (eS3 p)=true:=by
 have e:=lJ h;rw[if_neg (λx=>x ha)] at e;grind [R8,s,Bw,Pw,eB]
theorem Qq9(h:N9 p)(ha:aC p=0):U3 (eC3 p) (Pw p 5 2 (eD p))=(eC4 p,[],0):=by
 have zd:(eD p).size=32:=X2 _ _ _;rw[Tl (h.c3 ha) rfl (by decide) (by decide) (by omega),Qyu rfl rfl];unfold JQ;rw[if_neg (by grind),if_neg (show ¬eD p≠O7 (eC3 p).fF DC (eC3 p).fD from λx=>x rfl)];rfl
theorem N9.c4(h:N9 p)(ha:aC p=0):QZ (eC4 p)=true:=by
 have:=R8 (s:=eC3 p) (v:=Pw p 5 2 (eD p)) (by rw[Qq9 h ha]);grind [Qq9]
end
end Go.Proofs.YtjdieimefebnfaaGreatDoor
namespace Go.Proofs.YtjdieimefebnfaaGreatDoor
open Go Go.EV
def Gt(x:Out):Prop:=∀r,x=.inl r->r.2.length<=1
theorem KY{r:Q2×List Z0}(h:r.2.length<=1):Gt (.inl r):=λq hq=>by grind
theorem V5(e:Bool×Int):Gt (.inr e):=λq hq=>by cases hq
theorem D7{p:Prop}[Decidable p]{x y:Out}(hx:Gt x)(hy:Gt y):Gt (if p then x else y):=by grind
theorem FO{p:Bool}{x y:Out}(hx:Gt x)(hy:Gt y):Gt (bif p then x else y):=by grind
theorem Qja(s:Q2)(v:Q6)(h:s.fM.length<=1):Gt (HY s v):=by
 unfold HY;refine D7 ?_ (D7 ?_ (D7 ?_ (KY ?_)))
 ·exact FO (KY (zN 1)) (V5 _)
 ·unfold H5;refine D7 ?_ (D7 ?_ (D7 ?_ (D7 ?_ (D7 ?_ (V5 _)))))
  ·exact D7 (V5 _) (D7 (V5 _) (KY (zN 1)))
  ·exact D7 (V5 _) (D7 (V5 _) (D7 (V5 _) (D7 (V5 _) (KY (zN 1)))))
  ·exact D7 (V5 _) (D7 (V5 _) (KY (Nat.zero_le 1)))
  ·exact D7 (V5 _) (D7 (D7 (V5 _) (KY (zN 1))) (KY (zN 1)))
  ·exact D7 (V5 _) (D7 (V5 _) (D7 (V5 _) (D7 (V5 _) (D7 (V5 _) (KY (zN 1))))))
 ·exact FO (KY (Nat.zero_le 1)) (FO (V5 _) (KY h))
 grind
theorem yN(s:Q2)(v:Q6):(U3 s v).2.1.length<=1:=by
 unfold U3;cases hs:QZ s with
 | false=>grind
 | true=>
  cases dM s v with
  | false=>grind
  | true=>
   have k:=Qja { s with fk:=v.fk } v (G4 hs).ll;simp only[cond_true]
   match hq:HY { s with fk:=v.fk } v with
   | .inl r=>exact k r hq
   | .inr (true,e)=>exact Nat.zero_le 1
   | .inr (false,e)=>exact Nat.zero_le 1
def sE(s:Q2)(now:Int)(val:Bool)(q:List Z0)(k:Int)(n:Z0):List Z0×Q2×Bool:=
 bif (U3 s ⟨k,now,Yw,n⟩).2.2 != 0 then (q,s,val) else (q++(U3 s ⟨k,now,Yw,n⟩).2.1,(U3 s ⟨k,now,Yw,n⟩).1,val)
theorem dU{a1 a2 a3 a4 b2:Nat}{s t:Q2}{now:Int}{k:Int}{n:Z0}{val:Bool}{q:List Z0}{w1 w2 w3:bI}(hq:q.length<=100000)(hs:t=s){f1 f2:true=true->∀y:Z0,Z1.c y=Z1.d y} :
  Ok (.br a1 ((U3 s ⟨k,now,Yw,n⟩).2.2 != 0) (.gh a2 w1 (.done (q,t,val))) (.br a3 val (.call a4 (cV (U3 s ⟨k,now,Yw,n⟩).1) [] [] λr=>.app b2 Z1 q (U3 s ⟨k,now,Yw,n⟩).2.1 32 true f1 (.gh a2 w2 (.done (q++(U3 s ⟨k,now,Yw,n⟩).2.1,(U3 s ⟨k,now,Yw,n⟩).1,r==0))))
   (.app b2 Z1 q (U3 s ⟨k,now,Yw,n⟩).2.1 32 true f2 (.gh a2 w3 (.done (q++(U3 s ⟨k,now,Yw,n⟩).2.1,(U3 s ⟨k,now,Yw,n⟩).1,false))))):TT (List Z0×Q2×Bool)) (λr=>r=sE s now val q k n):=by
 subst hs;have hl:=yN t ⟨k,now,Yw,n⟩;have hv:=@R8 t ⟨k,now,Yw,n⟩;unfold sE;generalize U3 t ⟨k,now,Yw,n⟩=S at *
 refine Ok.e (by grind [Ok.g,Ok.d]) λh=>?_;have hz:S.2.2=0:=by simpa using h
 refine Ok.e (λh2=>Ok.c (AW S.1 (G4 (hv hz)).sm) λr hr=>Ok.app (by omega) (Ok.g (Ok.d ?_))) λh2=>Ok.app (by omega) (Ok.g (Ok.d ?_))
 ·grind
 grind
theorem NX(ev:Q6)(a b:Q2)(now:Int)(val:Bool)(q0 q1:List Z0)(ha:QZ a=true)(hq:q1.length<=100000):Qy (s17 ev a b now val q0 q1) (λr=>r=sE a now val q1 ev.fw ev.fO):=by
 show Ok (g17 ev a b now val q0 q1) _;unfold g17;refine Ok.c (ZF a _ (G4 ha).sm) λr hr=>?_;subst hr;exact dU hq rfl
theorem kX(ev:Q6)(a b:Q2)(now:Int)(val:Bool)(q0 q1:List Z0)(hb:QZ b=true)(hq:q0.length<=100000):Qy (pC ev a b now val q0 q1) (λr=>r=sE b now val q0 ev.fw ev.fO):=by
 show Ok (eW ev a b now val q0 q1) _;unfold eW;refine Ok.c (ZF b _ (G4 hb).sm) λr hr=>?_;subst hr;exact dU hq rfl
def sD(s:Q2)(now:Int)(val:Bool)(q q2:List Z0):List Z0×List Z0×Q2×Bool:=match q with
 | []=>([],q2,s,val)
 | n :: q=>(q,sE s now val q2 2 n)
theorem Qz8(a b:Q2)(now:Int)(val:Bool)(q0 q1:List Z0)(ha:QZ a=true)(hq:q1.length<=100000):Qy (jI a b now val q0 q1) (λr=>r=sD a now val q0 q1):=by
 show Ok (g18 a b now val q0 q1) _;unfold g18;cases q0 with
 | nil=>exact Ok.t rfl (Ok.g (Ok.g (Ok.d rfl)))
 | cons n q=>
  refine Ok.f (by grind) (Ok.k (by simp<;>omega) (Ok.r rfl rfl (Ok.k (by simp<;>omega) (Ok.g (Ok.Ic (by simp) (Ok.g ?_))))));refine Ok.c (R:=λr=>r=n) ⟨n,rfl,rfl⟩ λr hr=>?_;subst hr;refine Ok.c (NX _ a b now val _ q1 ha hq) λr2 hr2=>Ok.g (Ok.g (Ok.d ?_));subst hr2;rfl
theorem Qz7(a b:Q2)(now:Int)(val:Bool)(q0 q1:List Z0)(hb:QZ b=true)(hq:q0.length<=100000):Qy (HC a b now val q0 q1) (λr=>r=((sD b now val q1 q0).2.1,(sD b now val q1 q0).1,(sD b now val q1 q0).2.2)):=by
 show Ok (eU a b now val q0 q1) _;unfold eU;cases q1 with
 | nil=>exact Ok.t rfl (Ok.g (Ok.g (Ok.d rfl)))
 | cons n q=>
  refine Ok.f (by grind) (Ok.k (by simp<;>omega) (Ok.r rfl rfl (Ok.k (by simp<;>omega) (Ok.g (Ok.Ic (by simp) (Ok.g ?_))))));refine Ok.c (R:=λr=>r=n) ⟨n,rfl,rfl⟩ λr hr=>?_;subst hr;refine Ok.c (kX _ a b now val q0 _ hb hq) λr2 hr2=>Ok.g (Ok.g (Ok.d ?_));subst hr2;rfl
structure SmN(n:Nat)(s:Q2):Prop where
 bd:s.fh.size<=10000
 pb:s.fj.fh.size<=10000
 td:s.fD.size<=10000
 rn:s.fA.size<=10000
 pr:s.fJ.length<=n
 ps:∀p,p∈s.fJ->p.size<=10000
 ls:s.fM.length<=n
theorem SmN.sm{n:Nat}{s:Q2}(h:SmN n s)(hn:n<=100):Sm s:=⟨Nat.le_trans h.bd (by decide),Nat.le_trans h.pb (by decide),Nat.le_trans h.td (by decide),Nat.le_trans h.rn (by decide),by have:=h.pr;omega,λp hp=>Nat.le_trans (h.ps p hp) (by decide),by have:=h.ls;omega⟩
theorem smZ:SmN 8 PA:=⟨by decide,by decide,by decide,by decide,by decide,λp hp=>(by cases hp),by decide⟩
theorem Vf.cN{s:Q2}(h:Vf s):SmN 8 s:=⟨by have:=h.bz;omega,by have:=h.pb;omega,by have:=h.td;omega,by have:=h.rn;omega,h.pl,λp hp=>by have:=h.ps p hp;omega,by have:=h.ll;omega⟩
def NB(l:List Z0):Prop:=l.length<=8/\∀n,n∈l->n.fI.size<=10000
theorem sH:NB []:=⟨Nat.zero_le _,λ_ h=>nomatch h⟩
theorem nb1{n:Z0}(h:n.fI.size<=10000):NB [n]:=⟨show 1<=8 by decide,(by grind)⟩
def PP(r:Q2×List Z0):Prop:=SmN 8 r.1/\NB r.2
def OP(x:Out):Prop:=∀r,x=.inl r->PP r
theorem Ox{x:Q2×List Z0}(h:PP x):OP (.inl x):=λ_ e=>Sum.inl.inj e▸h
theorem Hv{q:Bool×Int}:OP (.inr q):=λ_ e=>nomatch e
theorem JX{c:Prop}[Decidable c]{x y:Out}(hx:OP x)(hy:OP y):OP (if c then x else y):=by grind
theorem Qjs{c:Bool}{x y:Out}(hx:OP x)(hy:OP y):OP (bif c then x else y):=by grind
theorem uZ(s:Q2)(b:ze)(h:Vf s)(hb:b.size<=4000):OP (ZQ s b):=by
 have z:=h.cN
 have z5:=h.rn;unfold ZQ;refine JX Hv (JX Hv (Ox ⟨⟨z.bd,z.pb,?_,z.rn,z.pr,z.ps,show 1<=8 by decide⟩,nb1 ?_⟩))
 ·grind [K6,ByteArray.size_append,F4,Jm,Um]
 grind [ByteArray.size_append,F4,Um]
theorem VN(s:Q2)(b:ze)(h:Vf s)(hb:b.size<=4000):OP (X5 s b):=by
 have z:=h.cN
 have z2:=h.bz
 have z3:=h.td
 have e1:(WW s b).size=s.fD.size+(4+b.size):=by unfold WW;rw[ByteArray.size_append,K6]
 have e2:(Hd s b).size=32+s.fh.size:=by unfold Hd;rw[ByteArray.size_append,X2]
 have e3:(WW s b++Jm 4 (Hd s b)).size<=10000:=by rw[ByteArray.size_append,K6];omega
 unfold X5;generalize WW s b++Jm 4 (Hd s b)=T at *
 generalize Hd s b=B at *
 generalize Dr s b=M;refine JX Hv (JX Hv (JX Hv (JX Hv (Ox ⟨⟨z.bd,?_,e3,z.rn,z.pr,z.ps,show 1<=8 by decide⟩,(by grind [nb1])⟩))));show (b.extract 64 b.size).size<=10000;rw[ByteArray.size_extract];omega
theorem rL(s:Q2)(b:ze)(h:Vf s)(hb:b.size<=4000):OP (JQ s b):=by
 have z:=h.cN
 have z3:=h.td;unfold JQ;refine JX Hv (JX Hv (Ox ⟨⟨z.bd,z.pb,?_,z.rn,z.pr,z.ps,show 0<=8 by decide⟩,sH⟩));grind [ByteArray.size_append,K6,Jm]
theorem mR(s:Q2)(f b:ze)(h:Vf s)(hb:b.size<=4000):OP (R3 s f b):=by
 have z:=h.cN
 have z2:=h.bz
 have z3:=h.td
 have z5:=h.rn
 have e1:(Dj s b).size=s.fD.size+(4+b.size):=by unfold Dj;rw[ByteArray.size_append,K6]
 have e2:(HZ s).size=s.fA.size+32+s.fh.size:=by grind [ByteArray.size_append,F4,HZ]
 have e3:(Dj s b++Jm 3 (HZ s)).size<=10000:=by rw[ByteArray.size_append,K6];omega
 unfold R3;have e4:(ZU s.gb (f++b.extract 0 64)).size=32:=B5 _ _;generalize ZU s.gb (f++b.extract 0 64)=M at *
 generalize Dj s b++Jm 3 (HZ s)=T at *
 generalize HZ s=B at *
 exact JX Hv (JX (JX Hv (Ox ⟨⟨z.bd,z.pb,z.td,z.rn,z.pr,z.ps,show 1<=8 by decide⟩,(by grind [nb1])⟩)) (Ox ⟨⟨z.bd,show 0<=10000 by decide,e3,z.rn,z.pr,z.ps,show 1<=8 by decide⟩,(by grind [nb1])⟩))
theorem uD(s:Q2)(b:ze)(h:Vf s)(hb:b.size<=4000):OP (F8 s b):=by
 have z:=h.cN
 have z3:=h.td
 have e1:(Me s b).size=s.fD.size+(4+b.size):=by unfold Me;rw[ByteArray.size_append,K6]
 have e2:(Hb s b).size=32:=X2 _ _ _
 have e3:(Me s b++Jm 5 (Hb s b)).size<=10000:=by rw[ByteArray.size_append,K6];omega
 unfold F8;generalize Me s b++Jm 5 (Hb s b)=T at *
 generalize Hb s b=C at *
 generalize O7 (Kn s b) Ks (s.fD++b.extract 32 b.size)=D;generalize Kn s b=M;refine JX Hv (JX Hv (JX Hv (JX Hv (JX Hv (Ox ⟨⟨z.bd,?_,e3,z.rn,z.pr,z.ps,show 1<=8 by decide⟩,(by grind [nb1])⟩)))));show (b.extract 32 b.size).size<=10000;rw[ByteArray.size_extract];omega
theorem Qex(s:Q2)(v:Q6)(h:Vf s)(hl:NB s.fM)(hb:v.fw=2->v.fO.fI.size<=4000):OP (HY s v):=by
 have z:=h.cN;unfold HY;split
 ·unfold KR;refine Qjs (Ox ⟨⟨z.bd,z.pb,z.td,z.rn,z.pr,z.ps,show 1<=8 by decide⟩,nb1 ?_⟩) Hv;show (s.fA++Um s).size<=10000;rw[ByteArray.size_append,F4,h.rn];decide
 split
 ·rename_i hk;have hb:=hb hk;unfold H5;exact JX (uZ s _ h hb) (JX (VN s _ h hb) (JX (rL s _ h hb) (JX (mR s _ _ h hb) (JX (uD s _ h hb) Hv))))
 split
 ·unfold XB;exact Qjs (Ox ⟨z,sH⟩) (Qjs Hv (Ox ⟨⟨z.bd,z.pb,z.td,z.rn,z.pr,z.ps,z.ls⟩,hl⟩))
 ·refine Ox ⟨z,?_⟩;grind [sH,NB]
theorem nN{s:Q2}(h:QZ s=true):NB s.fM:=by
 unfold QZ at h;simp only[zG] at h;obtain⟨x,_,hl⟩:=List.any_eq_true.1 h.2;unfold F1 at hl;simp only[zG] at hl;have l8:=hl.q.2.2.2;unfold V6 at l8;split at l8
 ·simp_all [zI,List.eq_nil_of_length_eq_zero,sH]
 ·split at l8
  ·rename_i hq;rw[hq];unfold B3 at l8;simp only[zG,zI] at l8;exact nb1 (by omega)
  ·cases l8
theorem oJ(s:Q2)(v:Q6):SmN 8 (U3 s v).1/\NB (U3 s v).2.1:=by
 unfold U3;cases hv:QZ s with
 | false=>exact⟨smZ,sH⟩
 | true=>
  cases he:dM s v with
  | false=>exact⟨smZ,sH⟩
  | true=>
   have vf:=G4 hv;unfold dM at he;simp only[zG,zI] at he;obtain⟨k1,k2,k3,k4,k5,k6⟩:=he
   have nw:=vf.nw
   have hnw:V0 v.fk=true:=by
    unfold V0 at nw ⊢;grind
   have vf2:=vf.at hnw
   have key:=Qex { s with fk:=v.fk } v vf2 (show NB s.fM from nN hv) λh2=>by
    rw[h2] at k6;have k6:B3 v.fO=true:=k6;unfold B3 at k6;grind
   rw[cond_true,cond_true];generalize HY { s with fk:=v.fk } v=E at *
   match E,key with
   | .inl r,key=>exact key r rfl
   | .inr (true,e),_=>have z:=vf2.cN;exact⟨⟨z.bd,show 0<=10000 by decide,show 0<=10000 by decide,z.rn,z.pr,z.ps,show 0<=8 by decide⟩,sH⟩
   | .inr (false,e),_=>exact⟨smZ,sH⟩
theorem DK(k n:Int):Qy (Hf k n) (λr=>r.size=32):=by
 unfold Hf;refine Qy.fn ?_;unfold g43;refine Ok.b (R:=λe=>e.size=32) ?_ λe he=>Ok.d he;refine Ok.s 32 (by decide) (λk y=>y.1.size=k/\y.2=(k:Int)) ⟨rfl,rfl⟩ (λk y hy hk=>?_) λy hy=>?_
 ·obtain⟨h1,h2⟩:=hy;refine Ok.t (by grind) (Ok.k (by rw[zI,E5];grind) (Ok.d ⟨?_,?_⟩))
  ·grind [ByteArray.size_append,E5,strOfNums]
  grind [Z4,Q0]
 grind [Ok.f,Ok.d]
def Gr(d:Zq):Prop:=(0<=d.fB.a0/\d.fB.a0<=65535)/\(0<=d.fB.a1/\d.fB.a1<=65535)/\0<=d.gg.a0/\0<=d.gg.a1
theorem four(a:Int)(h:0<=a):Int.tmod a 4=0\/Int.tmod a 4=1\/Int.tmod a 4=2\/Int.tmod a 4=3:=by
 grind
theorem lC(l:List ze)(x:ze)(hl:l.length<=100000):Qy (s48 l x) (λr=>r=l.any λy=>decide (x=y)):=by
 unfold s48;refine Qy.fn ?_;unfold g48;refine Ok.c (kU l x hl) λr hr=>Ok.d ?_;grind
theorem Qzu(b:Z6)(hv:G1 b=true):Qy (cC b) (λr=>r=(W9 (YN (K2 b)),0)):=by
 grind [oF,Qy.fn,Ok.c,Wm,Ok.f,AE,Ok.d,cC,g47]
theorem sU{s:Q2}(hs:QZ s=true){o:ze}(ho:okB o=true):Qy (s16 s o s.fk) (λr=>r.1=decide (T8 (QI o) s.fJ s.fk=0)/\(T8 (QI o) s.fJ s.fk≠0->r.2=T8 (QI o) s.fJ s.fk)):=by
 have vf:=G4 hs
 have f:=(M5 s).1 (P5 hs).1
 have hv:=(MB ho).2
 have hn:=P8.1 f.nw
 have hp:=f.pr;unfold Mm at hp;simp only[zG,zI] at hp
 have h1:(s.fJ.any λx=>!YP x)=false:=by
  grind
 have e:T8 (QI o) s.fJ s.fk=bif s.fJ.any λx=>decide (W9 (YN (K2 (QI o)))=x) then (bif decide (s.fk < (QI o).fC) || decide ((QI o).fB < s.fk) then 10 else 0) else 4:=by
  grind [T8,Vm,decide,W9,YN,K2,QI]
 unfold s16;refine Qy.fn ?_;unfold g16;refine Ok.c (WB o (by have:=T0 ho;omega)) λr hr=>?_;have hr:r=(QI o,0):=by grind [JL]
 subst hr;refine Ok.c (Qzu (QI o) hv) λr hr=>?_;subst hr;refine Ok.n (R:=λc=>c=!s.fJ.any λx=>decide (W9 (YN (K2 (QI o)))=x)) (Ok.f rfl (Ok.f rfl (by grind [Ok.c,lC,Ok.d]))) λc hc=>?_;subst hc;cases ha:s.fJ.any λx=>decide (W9 (YN (K2 (QI o)))=x) with
 | false=>
  refine Ok.t rfl (Ok.d ?_);rw[e,ha];exact⟨rfl,λ_=>rfl⟩
 | true=>
  refine Ok.f rfl (Ok.n (R:=λc=>c=!(decide (s.fk < (QI o).fC) || decide ((QI o).fB < s.fk))) (Ok.e (λh=>Ok.d ?_) λh=>Ok.d ?_) λc hc=>Ok.d ?_)
  ·have h:(QI o).fC<=s.fk:=by simpa using h
   show decide (s.fk<=(QI o).fB)=_;rw[Bool.eq_iff_iff];simp;omega
  ·simp_all
  ·rw[e,ha,hc];cases (decide (s.fk < (QI o).fC) || decide ((QI o).fB < s.fk))<;>exact(by grind)
def L0(k n:Int):ze:=(Hf k n).o.getD zg
theorem JE(k n:Int):Qy (Hf k n) (λr=>r=L0 k n):=by
 obtain⟨r,h1,_⟩:=DK k n;exact⟨r,h1,by grind [L0]⟩
theorem G5(k n:Int):(L0 k n).size=32:=by
 obtain⟨r,h1,h2⟩:=DK k n;grind [L0]
attribute [irreducible] L0
def Jd(side:Int)(k u:Int):Z6:=⟨if side=0 then bs [99,108,105,101,110,116] else bs [115,101,114,118,101,114,46,101,120,97,109,112,108,101],P0 (L0 k side),0,u,side⟩
theorem Qo8(k u:Int):Jd 0 k u=⟨bs [99,108,105,101,110,116],xS (L0 k 0) V4,0,u,0⟩:=by unfold Jd P0;grind
theorem Qo7(k u:Int):Jd 1 k u=⟨bs [115,101,114,118,101,114,46,101,120,97,109,112,108,101],xS (L0 k 1) V4,0,u,1⟩:=by simp_all [if_neg,Jd,P0]
theorem XW{side k u:Int}(hs:side=0\/side=1)(hu:0<=u/\u<=65535):G1 (Jd side k u)=true:=by
 have z:=Uk (L0 k side)
 have n1:B4 (bs [99,108,105,101,110,116])=true:=by kernel_rfl
 have n2:B4 (bs [115,101,114,118,101,114,46,101,120,97,109,112,108,101])=true:=by kernel_rfl
 unfold G1 Jd;grind
theorem rY:((List.range 256).all λc=>HQ (CK (c:Int))&&HQ (Cs (c:Int)))=true:=by decide +kernel
theorem Qyy{c:Int}(h:0<=c/\c < 256):HQ (CK c)=true/\HQ (Cs c)=true:=by
 obtain⟨n,rfl⟩:=Int.eq_ofNat_of_zero_le h.1;grind [List.all_eq_true,rY]
theorem cP:∀l:List Int,∀c,c∈HU l->0<=c/\c < 256:=by
 intro l;induction l with
 | nil=>grind [HU]
 | cons x l ih=>
  cases l with
  | nil=>
   intro c hc;simp only[HU,zV,wa,or_false] at hc;rcases hc with rfl|rfl<;>exact E9 _ _
  | cons y l=>
   intro c hc;simp only[HU,zV] at hc;rcases hc with rfl|rfl|rfl|hc
   ·exact E9 _ _
   ·exact E9 _ _
   ·decide
   grind
theorem OL{s:ze}(hz:s.size=32):YP (W9 s)=true:=by
 have hl:(Q3 s).length=32:=by rw[U1,hz]
 have hS:Q3 (W9 s)=Q3 V7++HU (Q3 s):=by unfold W9;rw[UF,G9 (cP _)]
 have hSz:(W9 s).size=103:=by rw[<-E4,hS,wV,LP,hl];rfl
 have at8:∀i:Nat,i < 95->some (QQ (W9 s) ((8+i:Nat):Int))=(HU (Q3 s))[i]?:=λi hi=>by
  rw[<-P9 (s:=W9 s) (k:=8+i) (by omega),hS,ww (by rw[E4];show 8<=_;omega)];rw[E4,show 8+i - V7.size=i from by show 8+i - 8=i;omega]
 unfold YP;rw[we hSz,Bool.true_and,zG,zI,zJ];refine⟨by unfold W9;exact VY rfl,λi hi=>?_⟩;have hi:i < 95:=by simpa using hi
 have h1:=at8 i hi
 have hg:(Q3 s)[i / 3]?=some (QQ s ((i / 3:Nat):Int)):=P9 (by omega);obtain⟨g0,g1,g2⟩:=LS (Q3 s) (i / 3) _ hg
 have hx:=Qyy (E9 s ((i / 3:Nat):Int));unfold Vp;by_cases c2:i % 3=2
 ·grind
 ·rw[if_neg c2];by_cases c0:i % 3=0
  ·grind
  grind
def TA(A:Int)(o q:ze):List ze:=if A=0 then [q] else if A=1 then [o,q] else if A=2 then [o] else []
def TG(k:Int):ze:=W9 (L0 k 7)
def PE(b:Z6):ze:=W9 (YN (K2 b))
def F3(d:Zq):Ends where
 sc:=L0 d.fG.a0 0
 bc:=K2 (Jd 0 d.fG.a0 d.fB.a0)
 fc:=L0 d.fG.a0 2
 rc:=L0 d.fG.a0 4
 pc:=TA (Int.tmod d.gg.a0 4) (TG d.fG.a0) (PE (Jd 1 d.fG.a1 d.fB.a1))
 ss:=L0 d.fG.a1 1
 bv:=K2 (Jd 1 d.fG.a1 d.fB.a1)
 fs:=L0 d.fG.a1 3
 rs:=L0 d.fG.a1 5
 ck:=L0 d.fG.a1 5
 pv:=TA (Int.tmod d.gg.a1 4) (TG d.fG.a0) (PE (Jd 0 d.fG.a0 d.fB.a0))
 n:=d.fU
def Py(d:Zq):Prop:=Gr d/\0<=d.fU/\d.fU<=65535
theorem uE{A:Int}{o q:ze}(ho:YP o=true)(hq:YP q=true):Mm { PA with fJ:=TA A o q }=true:=by
 grind [Mm,TA]
theorem Cl{side:Int}{sec bdg fr rn ck:ze}{ps:List ze}{n:Int}(hs:side=1\/side=2)(h1:sec.size=32)(h2:fr.size=32)(h3:rn.size=32)(hk:if side=2 then ck.size=32 else ck=zg)(hb:okB bdg=true)(hp:Mm { PA with fJ:=ps }=true)(hn:0<=n/\n<=65535):QZ (Je side sec bdg fr rn ck ps n)=true:=by
 refine C2 ((M5 _).2 ⟨P8.2 (show 0<=n/\n<=1099511627776 by omega),JJ h1,JJ h2,JJ h3,?_,hp,hb,LL,rfl⟩) ?_
 ·show UQ (Je side sec bdg fr rn ck ps n)=true;unfold UQ Je;split at hk
  ·simp_all [if_pos,JJ]
  ·rename_i h;rw[if_neg h,hk];rfl
 ·rcases hs with rfl|rfl
  ·exact F0 ⟨1,1,0,0,0,0,0,false⟩ (by simp[Y7]) ⟨rfl,rfl,(show (0:Int)<=0 by decide),(show (0:Int)<=0 by decide),rfl,rfl,MG rfl rfl,Wo rfl⟩
  ·exact F0 ⟨2,1,0,0,0,0,0,false⟩ (by simp[Y7]) ⟨rfl,rfl,(show (0:Int)<=0 by decide),(show (0:Int)<=0 by decide),rfl,rfl,MG rfl rfl,Wo rfl⟩
theorem BL(b:Z6):YP (PE b)=true:=OL (EU _)
theorem Lw(d:Zq)(h:Py d):N9 (F3 d):=by
 obtain⟨⟨u1,u2,_⟩,hb⟩:=h;have v0:=XW (side:=0) (k:=d.fG.a0) (.inl rfl) u1;have v1:=XW (side:=1) (k:=d.fG.a1) (.inr rfl) u2;have po:YP (TG d.fG.a0)=true:=OL (G5 _ _);refine⟨?_,?_,?_,?_⟩
 ·exact Cl (side:=1) (sec:=(F3 d).sc) (bdg:=(F3 d).bc) (fr:=(F3 d).fc) (rn:=(F3 d).rc) (ck:=zg) (ps:=(F3 d).pc) (n:=(F3 d).n) (.inl rfl) (G5 d.fG.a0 0) (G5 d.fG.a0 2) (G5 d.fG.a0 4) (by grind) (AR v0).1 (uE po (BL _)) hb
 ·exact Cl (side:=2) (sec:=(F3 d).ss) (bdg:=(F3 d).bv) (fr:=(F3 d).fs) (rn:=(F3 d).rs) (ck:=(F3 d).ck) (ps:=(F3 d).pv) (n:=(F3 d).n) (.inr rfl) (G5 d.fG.a1 1) (G5 d.fG.a1 3) (G5 d.fG.a1 5) (by rw[if_pos rfl];exact G5 d.fG.a1 5) (AR v1).1 (uE po (BL _)) hb
 ·show (QI (K2 (Jd 0 d.fG.a0 d.fB.a0))).fH=_;rw[(AR v0).2];rfl
 ·show (QI (K2 (Jd 1 d.fG.a1 d.fB.a1))).fH=_;rw[(AR v1).2];rfl
theorem Vh(d:Zq)(hu:Gr d):Qy (s41 d) (λr=>r.a0=Jd 0 d.fG.a0 d.fB.a0/\r.a1=Jd 1 d.fG.a1 d.fB.a1):=by
 unfold s41;refine Qy.fn ?_;unfold g41;obtain⟨u1,u2,_⟩:=hu;have w1:Q0 d.fB.a0=d.fB.a0:=Z4 (by omega) (by omega);have w2:Q0 d.fB.a1=d.fB.a1:=Z4 (by omega) (by omega);refine Ok.tt (Ok.c (JE _ _) λr1 h1=>Ok.c AZ λr2 h2=>Ok.c (Sb r1 r2 (by rw[h1];exact G5 _ _) (by rw[h2];exact Kq)) λr3 h3=>Ok.tt (Ok.c (JE _ _) λr4 h4=>Ok.c AZ λr5 h5=>Ok.c (Sb r4 r5 (by rw[h4];exact G5 _ _) (by rw[h5];exact Kq)) λr6 h6=>Ok.ff (Ok.d ⟨?_,?_⟩)))
 ·grind [Qo8,bs,Q0]
 grind [Qo7,bs,Q0]
theorem Qwq{side now:Int}{sec bdg fr rn ck k:ze}{ps:List ze}(h:QZ (Je side sec bdg fr rn ck ps now)=true)(h1:(QI bdg).fH=k)(h2:xS sec V4=k):FW side sec bdg fr rn ck ps now=(Je side sec bdg fr rn ck ps now,0):=by
 unfold FW;rw[h,h1,h2,we rfl];rfl
theorem Yq{a1 a2 a3 a4 a5:Nat}{k1 n1 k2 n2 k3 n3 side now:Int}{b:Z6}{ck:ze}{ps:List ze}{Q:Q2->Prop}(hv:G1 b=true)(hf:QZ (Je side (L0 k1 n1) (K2 b) (L0 k2 n2) (L0 k3 n3) ck ps now)=true)(hk:(QI (K2 b)).fH=P0 (L0 k1 n1))(hq:Q (Je side (L0 k1 n1) (K2 b) (L0 k2 n2) (L0 k3 n3) ck ps now)) :
  Ok (.call a1 (Hf k1 n1) [] [] λr=>.call a2 (Tc b) [] [] λr2=>.call a3 (Hf k2 n2) [] [] λr3=>.call a4 (Hf k3 n3) [] [] λr4=>.call a5 (iE side r r2 r3 r4 ck ps now) [] [] λx=>.done x.1:TT Q2) Q:=by
 refine Ok.c (JE _ _) λr h=>Ok.c (AU b hv) λr2 h2=>Ok.c (JE _ _) λr3 h3=>Ok.c (JE _ _) λr4 h4=>?_;subst h;subst h2;subst h3;subst h4;refine Ok.c (hC side _ _ _ _ ck ps now (G4 hf).sm) λx hx=>Ok.d ?_;have e:FW side (L0 k1 n1) (K2 b) (L0 k2 n2) (L0 k3 n3) ck ps now=(Je side (L0 k1 n1) (K2 b) (L0 k2 n2) (L0 k3 n3) ck ps now,0):=by
  exact Qwq hf hk rfl
 grind
theorem uV(d:Zq)(h:Py d):Qy (s15 d) (λr=>r.a0=dG (F3 d)/\r.a1=qQ (F3 d)):=by
 have ff:=Lw d h;obtain⟨hu,hb⟩:=h;obtain⟨u1,u2,u3,u4⟩:=id hu
 have v0:=XW (side:=0) (k:=d.fG.a0) (.inl rfl) u1
 have v1:=XW (side:=1) (k:=d.fG.a1) (.inr rfl) u2;unfold s15;refine Qy.fn ?_;unfold g15;rw[Z4 (n:=d.fU) (by omega) (by omega)]
 have f0:=four _ u3
 have f1:=four _ u4
 have p0:(F3 d).pc=TA (Int.tmod d.gg.a0 4) (TG d.fG.a0) (PE (Jd 1 d.fG.a1 d.fB.a1)):=rfl
 have p1:(F3 d).pv=TA (Int.tmod d.gg.a1 4) (TG d.fG.a0) (PE (Jd 0 d.fG.a0 d.fB.a0)):=rfl
 have q0:∀ps,ps=(F3 d).pc->Je 1 (L0 d.fG.a0 0) (K2 (Jd 0 d.fG.a0 d.fB.a0)) (L0 d.fG.a0 2) (L0 d.fG.a0 4) zg ps d.fU=dG (F3 d):=λps e=>by rw[e];rfl
 have q1:∀ps,ps=(F3 d).pv->Je 2 (L0 d.fG.a1 1) (K2 (Jd 1 d.fG.a1 d.fB.a1)) (L0 d.fG.a1 3) (L0 d.fG.a1 5) (L0 d.fG.a1 5) ps d.fU=qQ (F3 d):=λps e=>by rw[e];rfl
 have kc:(QI (K2 (Jd 0 d.fG.a0 d.fB.a0))).fH=P0 (L0 d.fG.a0 0):=ff.kc
 have ks:(QI (K2 (Jd 1 d.fG.a1 d.fB.a1))).fH=P0 (L0 d.fG.a1 1):=ff.ks
 have fc:=ff.c
 have fs:=ff.s;generalize F3 d=E at p0 p1 q0 q1 fc fs ⊢;generalize Int.tmod d.gg.a0 4=A at *
 generalize Int.tmod d.gg.a1 4=B at *
 refine Ok.c (Vh d hu) λbg hb2=>Ok.c (JE _ _) λr1 h1=>?_;subst h1;obtain⟨g0,g1⟩:=hb2;refine Ok.c (Md _ (by rw[G5];decide)) λo ho=>?_;have ho:o=TG d.fG.a0:=ho;subst ho;rw[g0,g1];refine Ok.tt (Ok.b (R:=λe=>e=dG E) ?_ λe he=>Ok.tt (Ok.b (R:=λe=>e=qQ E) ?_ (by grind [Ok.ff,Ok.d])))
 ·refine Ok.c (AJ _ v1) λq hq=>?_;have hq:q=PE (Jd 1 d.fG.a1 d.fB.a1):=hq;subst hq;rcases f0 with rfl|rfl|rfl|rfl
  ·exact Ok.Ke rfl (Ok.ff (Ok.g (Yq v0 ((congrArg QZ (q0 _ p0.symm)).trans fc) kc (q0 _ p0.symm))))
  ·exact Ok.Ke rfl (Ok.ff (Ok.g (Yq v0 ((congrArg QZ (q0 _ p0.symm)).trans fc) kc (q0 _ p0.symm))))
  ·exact Ok.Ke rfl (Ok.ff (Ok.g (Yq v0 ((congrArg QZ (q0 _ p0.symm)).trans fc) kc (q0 _ p0.symm))))
  ·exact Ok.Ke rfl (Ok.ff (Yq v0 ((congrArg QZ (q0 _ p0.symm)).trans fc) kc (q0 _ p0.symm)))
 ·refine Ok.c (AJ _ v0) λq hq=>?_;have hq:q=PE (Jd 0 d.fG.a0 d.fB.a0):=hq;subst hq;rcases f1 with rfl|rfl|rfl|rfl
  ·refine Ok.Ke rfl (Ok.tt (Ok.c (JE _ _) λr hr=>?_));subst hr;exact Ok.g (Yq v1 ((congrArg QZ (q1 _ p1.symm)).trans fs) ks (q1 _ p1.symm))
  ·refine Ok.Ke rfl (Ok.tt (Ok.c (JE _ _) λr hr=>?_));subst hr;exact Ok.g (Yq v1 ((congrArg QZ (q1 _ p1.symm)).trans fs) ks (q1 _ p1.symm))
  ·refine Ok.Ke rfl (Ok.tt (Ok.c (JE _ _) λr hr=>?_));subst hr;exact Ok.g (Yq v1 ((congrArg QZ (q1 _ p1.symm)).trans fs) ks (q1 _ p1.symm))
  ·refine Ok.Ke rfl (Ok.tt (Ok.c (JE _ _) λr hr=>?_));subst hr;exact Yq v1 ((congrArg QZ (q1 _ p1.symm)).trans fs) ks (q1 _ p1.symm)
end Go.Proofs.YtjdieimefebnfaaGreatDoor
