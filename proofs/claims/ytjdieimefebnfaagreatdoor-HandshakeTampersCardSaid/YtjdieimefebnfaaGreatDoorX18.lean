/- Part X18. -/
import Derived.Test.YtjdieimefebnfaaGreatDoorX17
import Derived.Test.YtjdieimefebnfaaGreatDoorRows
import Derived.ChangeSame
import Derived.ChangeVars
import Derived.JoinedOf
import Derived.RowKit
import Derived.ProofKit
import Derived.LaidMore
import Derived.Lay
import Derived.OpenShut
import Derived.Carry
import Derived.Stop.Joined
import Derived.Lib.LaidU8
import Derived.ChangeArms
import Derived.DataReads
import Derived.SevenTiedAt
set_option linter.all false
set_option maxRecDepth 100000
noncomputable section
set_option maxHeartbeats 4000000
namespace Go.Proofs.YtjdieimefebnfaaGreatDoor
open Go Go.EV Crv
theorem qA{s:Q3}{v:Q7}(hs:QZ s=true)(hk:1<=v.fw/\v.fw<=4)(hn:v.fm=s.fm)(hf:v.fI.size<=64)(hb:v.fw=2->B7 v.fM=true):U7 s v=Gg s (Kx s v):=by
 have e:({ s with fm:=v.fm }:Q3)=s:=by rw[hn]
 have f:=T4.1 ((M0 s).1 (R0 hs).1).nw;rw[Nl hs,e];unfold Bi;grind
theorem CY{k q:Int}{b:ze}(hk:0<=k/\k<=255)(hq:0<=q/\q < 65536)(hb:b.size<=4000):B7 ⟨k,q,b⟩=true:=by
 unfold B7;grind
theorem Gx{x y:ze}{n:Nat}(h:x.size=n):(x++y).extract 0 n=x:=by subst h;exact ByteArray.extract_append_eq_left rfl
theorem dX{x y:ze}{n m:Nat}(h:x.size=n)(hm:m=n+y.size):(x++y).extract n m=y:=by
 subst h;subst hm;exact ByteArray.extract_append_eq_right rfl rfl
theorem rI{x y z:ze}{n m:Nat}(hx:x.size=n)(hy:y.size=m - n)(_:n<=m):(x++y++z).extract n m=y:=by
 rw[ByteArray.append_assoc,ByteArray.extract_append];have h1:x.extract n m=zg:=by
  simp_all
 rw[h1,ByteArray.empty_append,hx,Nat.sub_self];exact Gx (by omega)
structure Ends where
 sc:ze
 bc:ze
 fc:ze
 rc:ze
 pc:List ze
 ss:ze
 bv:ze
 fs:ze
 rs:ze
 ck:ze
 pv:List ze
 n:Int
variable (p:Ends)
def G4:ze:=bs [102,97,114]
def CT:Q3:=Yg 1 p.sc p.bc p.fc p.rc zg p.pc p.n
def Oy:Q3:=Yg 2 p.ss p.bv p.fs p.rs p.ck p.pv p.n
def eH:ze:=p.rc++N1 p.fc
def eK:ze:=V2 p.ck (G4++eH p)
def KF:Q3:=Me (CT p) 2 1 (eH p)
def OH:Q3:=Me (Oy p) 1 2 (eK p)
def RJ:Q3:={ Me (KF p) 3 1 (eH p++eK p) with fq:=Zx 1 (eH p++eK p) }
def eA:ze:=p.rs++N1 p.fs++p.bv
def eT:ze:=Zx 1 (eH p++eK p)++Zx 3 (eA p)
def RY:Q3:={ Me (OH p) 4 3 (eA p) with fj:=⟨p.rc,N1 p.fc,zg⟩,fq:=eT p }
def eM:ze:=Vb (xS p.fc (N1 p.ss)) (xS p.sc (N1 p.fs)) p.rc p.rs
def eB:ze:=K3 (eM p) Yc (eT p++p.bc)++p.bc
def CC:Q3:={ Me (RJ p) 5 4 (eB p) with fj:=⟨p.rs,N1 p.fs,p.bv⟩,fC:=eM p,fq:=eT p++Zx 4 (eB p) }
def eD:ze:=K3 (eM p) Jo (eT p++Zx 4 (eB p))
def sC:Q3:={ Me (RY p) 6 5 (eD p) with fj:=⟨p.rc,N1 p.fc,p.bc⟩,fC:=eM p,fq:=eT p++Zx 4 (eB p)++Zx 5 (eD p) }
def eC4:Q3:={ CC p with fq:=eT p++Zx 4 (eB p)++Zx 5 (eD p),fk:=6,fP:=[],fD:=pP }
structure R3:Prop where
 c:QZ (CT p)=true
 s:QZ (Oy p)=true
 kc:(Zm p.bc).fJ=N1 p.sc
 ks:(Zm p.bv).fJ=N1 p.ss
def VL(k q:Int)(b:ze):Q7:=⟨2,p.n,G4,⟨k,q,b⟩⟩
def aC:Int:=Yo (Zm p.bv) p.pc p.n
def aS:Int:=Yo (Zm p.bc) p.pv p.n
section
variable {p}
theorem R3.zc(h:R3 p):p.sc.size=32/\p.fc.size=32/\p.rc.size=32/\okB p.bc=true:=by
 have v:=I7 h.c;exact⟨v.sc,v.fr,v.rn,v.bd⟩
theorem R3.zs(h:R3 p):p.ss.size=32/\p.fs.size=32/\p.rs.size=32/\okB p.bv=true:=by
 have v:=I7 h.s;exact⟨v.sc,v.fr,v.rn,v.bd⟩
theorem R3.zH(h:R3 p):(eH p).size=64:=by unfold eH;rw[ByteArray.size_append,Jq,h.zc.2.2.1]
theorem zK:(eK p).size=32:=B8 _ _
theorem R3.zHK(h:R3 p):(eH p++eK p).size=96:=by rw[ByteArray.size_append,h.zH,zK]
theorem R3.zA(h:R3 p):(eA p).size=64+p.bv.size:=by unfold eA;rw[ByteArray.size_append,ByteArray.size_append,Jq,h.zs.2.2.1]
theorem zEB:(eB p).size=32+p.bc.size:=by unfold eB;rw[ByteArray.size_append,M9]
theorem TU{s:Q3}{k q:Int}{b:ze}(hs:QZ s=true)(hn:s.fm=p.n)(hk:0<=k/\k<=255)(hq:0<=q/\q < 65536)(hb:b.size<=4000):U7 s (VL p k q b)=Gg s (U9 s G4 ⟨k,q,b⟩):=
 qA hs (show (1:Int)<=2/\(2:Int)<=4 by decide) hn.symm (by decide:G4.size<=64) λ_=>CY hk hq hb
theorem eU{s:Q3}{f b:ze}{q:Int}(h1:s.fp=1)(h2:s.fk=2\/s.fk=3):U9 s f ⟨2,q,b⟩=S8 s b:=by
 unfold U9;rw[if_pos (show s.fp=1/\(s.fk=2\/s.fk=3)/\(2:Int)=2 from⟨h1,h2,rfl⟩)]
theorem Qyx{s:Q3}{f b:ze}{q:Int}(h1:s.fp=1)(h2:s.fk=3):U9 s f ⟨3,q,b⟩=O1 s b:=by
 unfold U9;rw[if_neg (show ¬(s.fp=1/\(s.fk=2\/s.fk=3)/\(3:Int)=2) from λx=>absurd x.2.2 (by decide)),if_pos (show s.fp=1/\s.fk=3/\(3:Int)=3 from⟨h1,h2,rfl⟩)]
theorem Qye{s:Q3}{f b:ze}{q:Int}(h1:s.fp=1)(h2:s.fk=5):U9 s f ⟨5,q,b⟩=Hc s b:=by
 unfold U9;rw[if_neg (show ¬(s.fp=1/\(s.fk=2\/s.fk=3)/\(5:Int)=2) from λx=>absurd x.2.2 (by decide)),if_neg (show ¬(s.fp=1/\s.fk=3/\(5:Int)=3) from λx=>absurd x.2.2 (by decide)),if_pos (show s.fp=1/\s.fk=5/\(5:Int)=5 from⟨h1,h2,rfl⟩)]
theorem Bh{s:Q3}{f b:ze}{q:Int}(h1:s.fp=2)(h2:s.fk=1):U9 s f ⟨1,q,b⟩=G1 s f b:=by
 unfold U9;rw[if_neg (λx=>absurd (h1.symm.trans x.1) (by decide)),if_neg (λx=>absurd (h1.symm.trans x.1) (by decide)),if_neg (λx=>absurd (h1.symm.trans x.1) (by decide)),if_pos (show s.fp=2/\s.fk=1/\(1:Int)=1 from⟨h1,h2,rfl⟩)]
theorem Qyd{s:Q3}{f b:ze}{q:Int}(h1:s.fp=2)(h2:s.fk=4):U9 s f ⟨4,q,b⟩=R6 s b:=by
 unfold U9;rw[if_neg (λx=>absurd (h1.symm.trans x.1) (by decide)),if_neg (λx=>absurd (h1.symm.trans x.1) (by decide)),if_neg (λx=>absurd (h1.symm.trans x.1) (by decide)),if_neg (show ¬(s.fp=2/\s.fk=1/\(4:Int)=1) from λx=>absurd x.2.2 (by decide)),if_pos (show s.fp=2/\s.fk=4/\(4:Int)=4 from⟨h1,h2,rfl⟩)]
theorem EO(h:R3 p)(f:ze)(hf:f.size<=64)(n:Q9):U7 (CT p) ⟨1,p.n,f,n⟩=(KF p,[⟨1,0,eH p⟩],0):=by
 rw[qA h.c (by decide:(1:Int)<=1/\(1:Int)<=4) rfl hf (by grind)];rfl
theorem R3.c1(h:R3 p):QZ (KF p)=true:=by
 have e:=EO h G4 (by decide) ⟨0,0,zg⟩;grind [YC,s,CT,G4,ByteArray.empty]
theorem lD(h:R3 p):U7 (Oy p) (VL p 1 0 (eH p))=(OH p,[⟨2,0,eK p⟩],0):=by
 have zh:=h.zH;rw[TU h.s rfl (by decide) (by decide) (by omega),Bh rfl rfl];have e0:(eH p).extract 0 64=eH p:=by grind [ByteArray.extract_zero_size]
 have e1:(eH p).extract 64 (eH p).size≠V2 p.ck (G4++eH p):=λe=>by
  have:=congrArg ByteArray.size e;grind [B8,ByteArray.size_extract]
 unfold G1;rw[if_neg (by omega),e0,if_pos (show (eH p).extract 64 (eH p).size≠V2 (Oy p).gb (G4++eH p) from e1),if_neg (show ¬¬(Oy p).fo < 6 from λx=>x (show (0:Int) < 6 by decide))];rfl
theorem R3.s1(h:R3 p):QZ (OH p)=true:=by
 have:=YC (s:=Oy p) (v:=VL p 1 0 (eH p)) (by rw[lD h]);rwa [lD h] at this
theorem lE(h:R3 p):U7 (KF p) (VL p 2 0 (eK p))=(RJ p,[⟨1,1,eH p++eK p⟩],0):=by
 rw[TU h.c1 rfl (by decide) (by decide) (by rw[zK];decide),eU rfl (.inl rfl)];unfold S8;rw[if_neg (by grind [zK,eK]),if_neg (show ¬¬(KF p).fo < 7 from λx=>x (show (0+1:Int) < 7 by decide))];rfl
theorem R3.c2(h:R3 p):QZ (RJ p)=true:=by
 have:=YC (s:=KF p) (v:=VL p 2 0 (eK p)) (by rw[lE h]);rwa [lE h] at this
theorem lM(h:R3 p):U7 (OH p) (VL p 1 1 (eH p++eK p))=(RY p,[⟨3,1,eA p⟩],0):=by
 have zh:=h.zH;have z:=h.zHK;rw[TU h.s1 rfl (by decide) (by decide) (by omega),Bh rfl rfl];have e0:(eH p++eK p).extract 0 64=eH p:=Gx zh;have e1:(eH p++eK p).extract 64 (eH p++eK p).size=eK p:=dX zh (by grind);have e2:(eH p++eK p).extract 0 32=p.rc:=by unfold eH;rw[ByteArray.append_assoc];exact Gx h.zc.2.2.1
 have e3:(eH p++eK p).extract 32 64=N1 p.fc:=by grind [rI,Jq,eH]
 unfold G1;rw[if_neg (by omega),e0,e1,if_neg (show ¬eK p≠V2 (OH p).gb (G4++eH p) from λx=>x rfl),e2,e3];have e4:Dx (OH p) (eH p++eK p)++Zx 3 (HJ (OH p))=eT p:=by
  show zg++Zx 1 (eH p++eK p)++Zx 3 (eA p)=_;rw[ByteArray.empty_append];rfl
 show (({ Me (OH p) 4 3 (eA p) with fj:=⟨p.rc,N1 p.fc,zg⟩,fq:=Dx (OH p) (eH p++eK p)++Zx 3 (HJ (OH p)) }:Q3),[(⟨3,1,eA p⟩:Q9)],(0:Int))=_;rw[e4];rfl
theorem R3.s2(h:R3 p):QZ (RY p)=true:=by
 have:=YC (s:=OH p) (v:=VL p 1 1 (eH p++eK p)) (by rw[lM h]);rwa [lM h] at this
theorem xH(a b:ze):xS a (N1 b)≠Oj:=(by grind [Qen,LL,N1])
theorem Qqh(h:R3 p):U7 (RJ p) (VL p 3 1 (eA p))=if aC p≠0 then (JU (RJ p) (aC p),[],0) else (CC p,[⟨4,2,eB p⟩],0):=by
 have za:=h.zA;have bz:=Yq h.zs.2.2.2;rw[TU h.c2 rfl (by decide) (by decide) (by omega),Qyx rfl rfl];have z2:(p.rs++N1 p.fs).size=64:=by rw[ByteArray.size_append,Jq,h.zs.2.2.1]
 have e1:(eA p).extract 64 (eA p).size=p.bv:=by grind [dX,ByteArray.size_append,eA]
 have e2:(eA p).extract 0 32=p.rs:=by unfold eA;rw[ByteArray.append_assoc];exact Gx h.zs.2.2.1
 have e3:(eA p).extract 32 64=N1 p.fs:=by grind [rI,Jq,eA]
 have eM':Xs (RJ p) (eA p)=eM p:=by
  unfold Xs;rw[e1,e2,e3,h.ks];rfl
 have eT':Jl (RJ p) (eA p)=eT p:=rfl;have eB':HH (RJ p) (eA p)=eB p:=by unfold HH;rw[eM',eT'];rfl
 unfold O1;rw[if_neg (by omega),e1,if_neg (by rw[h.zs.2.2.2];decide)];show Gg (RJ p) (if aC p≠0 then _ else _)=_;by_cases ha:aC p≠0
 ·rw[if_pos ha,if_pos ha];rfl
 rw[if_neg ha,if_neg ha,h.ks,e3,if_neg (by grind [xH,xS,RJ,N1,Oj]),eM',eB',eT',e2];rfl
theorem Qjl(h:R3 p):Vb (xS p.ss (N1 p.fc)) (xS p.fs (N1 p.sc)) p.rc p.rs=eM p:=by
 grind [rS,eM]
theorem Qhm(h:R3 p):U7 (RY p) (VL p 4 2 (eB p))=if aS p≠0 then (JU (RY p) (aS p),[],0) else (sC p,[⟨5,2,eD p⟩],0):=by
 have zb:=zEB (p:=p);have bz:=Yq h.zc.2.2.2;rw[TU h.s2 rfl (by decide) (by decide) (by omega),Qyd rfl rfl];have e1:(eB p).extract 32 (eB p).size=p.bc:=by grind [dX,M9,ByteArray.size_append,eB]
 have e2:(eB p).extract 0 32=K3 (eM p) Yc (eT p++p.bc):=by grind [Gx,M9,eB]
 have eM':Um (RY p) (eB p)=eM p:=by
  unfold Um;rw[e1,h.kc];exact Qjl h
 have eT':Ml (RY p) (eB p)=eT p++Zx 4 (eB p):=rfl;have eC':Wh (RY p) (eB p)=eD p:=by unfold Wh;rw[eM',eT'];rfl
 unfold R6;rw[if_neg (by omega),e1,if_neg (by rw[h.zc.2.2.2];decide)];show Gg (RY p) (if aS p≠0 then _ else _)=_;by_cases ha:aS p≠0
 ·rw[if_pos ha,if_pos ha];rfl
 rw[if_neg ha,if_neg ha,h.kc,if_neg (by grind [xH,xS,RY,Oj,N1]),eM',e2,if_neg (show ¬K3 (eM p) Yc (eT p++p.bc)≠K3 (eM p) Yc ((RY p).fq++p.bc) from λx=>x rfl),eC',eT'];rfl
theorem R3.c3(h:R3 p)(ha:aC p=0):QZ (CC p)=true:=by
 have e:=Qqh h;rw[if_neg (λx=>x ha)] at e;grind [YC,s,RJ,VL,eA]
theorem Qhk(h:R3 p)(ha:aC p=0):U7 (CC p) (VL p 5 2 (eD p))=(eC4 p,[],0):=by
 have zd:(eD p).size=32:=M9 _ _ _;rw[TU (h.c3 ha) rfl (by decide) (by decide) (by omega),Qye rfl rfl];unfold Hc;rw[if_neg (by grind),if_neg (show ¬eD p≠K3 (CC p).fC Jo (CC p).fq from λx=>x rfl)];rfl
end
end Go.Proofs.YtjdieimefebnfaaGreatDoor
namespace Go.Proofs.YtjdieimefebnfaaGreatDoor
open Go Go.EV
def GF(x:Out):Prop:=∀r,x=.inl r->r.2.length<=1
theorem KW{r:Q3×List Q9}(h:r.2.length<=1):GF (.inl r):=λq hq=>by grind
theorem V5(e:Bool×Int):GF (.inr e):=λq hq=>by cases hq
theorem X0{p:Prop}[Decidable p]{x y:Out}(hx:GF x)(hy:GF y):GF (if p then x else y):=by grind
theorem Gz{p:Bool}{x y:Out}(hx:GF x)(hy:GF y):GF (bif p then x else y):=by grind
theorem Qja(s:Q3)(v:Q7)(h:s.fP.length<=1):GF (Kx s v):=by
 unfold Kx;refine X0 ?_ (X0 ?_ (X0 ?_ (KW ?_)))
 ·exact Gz (KW (zQ 1)) (V5 _)
 ·unfold U9;refine X0 ?_ (X0 ?_ (X0 ?_ (X0 ?_ (X0 ?_ (V5 _)))))
  ·exact X0 (V5 _) (X0 (V5 _) (KW (zQ 1)))
  ·exact X0 (V5 _) (X0 (V5 _) (X0 (V5 _) (X0 (V5 _) (KW (zQ 1)))))
  ·exact X0 (V5 _) (X0 (V5 _) (KW (Nat.zero_le 1)))
  ·exact X0 (V5 _) (X0 (X0 (V5 _) (KW (zQ 1))) (KW (zQ 1)))
  ·exact X0 (V5 _) (X0 (V5 _) (X0 (V5 _) (X0 (V5 _) (X0 (V5 _) (KW (zQ 1))))))
 ·exact Gz (KW (Nat.zero_le 1)) (Gz (V5 _) (KW h))
 grind
theorem Nf(s:Q3)(v:Q7):(U7 s v).2.1.length<=1:=by
 unfold U7;cases hs:QZ s with
 | false=>grind
 | true=>
  cases Bi s v with
  | false=>grind
  | true=>
   have k:=Qja { s with fm:=v.fm } v (I7 hs).ll;simp only[cond_true];match hq:Kx { s with fm:=v.fm } v with
   | .inl r=>exact k r hq
   | .inr (true,e)=>exact Nat.zero_le 1
   | .inr (false,e)=>exact Nat.zero_le 1
def XD(s:Q3)(now:Int)(val:Bool)(q:List Q9)(k:Int)(n:Q9):List Q9×Q3×Bool:=
 bif (U7 s ⟨k,now,G4,n⟩).2.2 != 0 then (q,s,val) else (q++(U7 s ⟨k,now,G4,n⟩).2.1,(U7 s ⟨k,now,G4,n⟩).1,val)
theorem dG{a1 a2 a3 a4 b2:Nat}{s t:Q3}{now:Int}{k:Int}{n:Q9}{val:Bool}{q:List Q9}{w1 w2 w3:bG}(hq:q.length<=100000)(hs:t=s){f1 f2:true=true->∀y:Q9,Z3.c y=Z3.d y} :
  Ok (.br a1 ((U7 s ⟨k,now,G4,n⟩).2.2 != 0) (.gh a2 w1 (.done (q,t,val))) (.br a3 val (.call a4 (tY (U7 s ⟨k,now,G4,n⟩).1) [] [] λr=>.app b2 Z3 q (U7 s ⟨k,now,G4,n⟩).2.1 32 true f1 (.gh a2 w2 (.done (q++(U7 s ⟨k,now,G4,n⟩).2.1,(U7 s ⟨k,now,G4,n⟩).1,r==0))))
   (.app b2 Z3 q (U7 s ⟨k,now,G4,n⟩).2.1 32 true f2 (.gh a2 w3 (.done (q++(U7 s ⟨k,now,G4,n⟩).2.1,(U7 s ⟨k,now,G4,n⟩).1,false))))):TT (List Q9×Q3×Bool)) (λr=>r=XD s now val q k n):=by
 subst hs;have hl:=Nf t ⟨k,now,G4,n⟩;have hv:=@YC t ⟨k,now,G4,n⟩;unfold XD;generalize U7 t ⟨k,now,G4,n⟩=S at *;refine Ok.e (by grind [Ok.g,Ok.d]) λh=>?_;have hz:S.2.2=0:=by simpa using h
 refine Ok.e (λh2=>Ok.c (AF S.1 (I7 (hv hz)).sm) λr hr=>Ok.app (by omega) (Ok.g (Ok.d ?_))) λh2=>Ok.app (by omega) (Ok.g (Ok.d ?_))
 ·grind
 grind
theorem AG(ev:Q7)(a b:Q3)(now:Int)(val:Bool)(q0 q1:List Q9)(ha:QZ a=true)(hq:q1.length<=100000):Qy (s17 ev a b now val q0 q1) (λr=>r=XD a now val q1 ev.fw ev.fM):=by
 show Ok (g17 ev a b now val q0 q1) _;unfold g17;refine Ok.c (ZF a _ (I7 ha).sm) λr hr=>?_;subst hr;exact dG hq rfl
theorem NT(ev:Q7)(a b:Q3)(now:Int)(val:Bool)(q0 q1:List Q9)(hb:QZ b=true)(hq:q0.length<=100000):Qy (sY ev a b now val q0 q1) (λr=>r=XD b now val q0 ev.fw ev.fM):=by
 show Ok (eS ev a b now val q0 q1) _;unfold eS;refine Ok.c (ZF b _ (I7 hb).sm) λr hr=>?_;subst hr;exact dG hq rfl
def mtD(s:Q3)(now:Int)(val:Bool)(q q2:List Q9):List Q9×List Q9×Q3×Bool:=match q with
 | []=>([],q2,s,val)
 | n :: q=>(q,XD s now val q2 2 n)
structure SmN(n:Nat)(s:Q3):Prop where
 bd:s.fh.size<=10000
 pb:s.fj.fh.size<=10000
 td:s.fq.size<=10000
 rn:s.fG.size<=10000
 pr:s.fL.length<=n
 ps:∀p,p∈s.fL->p.size<=10000
 ls:s.fP.length<=n
theorem smZ:SmN 8 Fw:=⟨by decide,by decide,by decide,by decide,by decide,λp hp=>(by cases hp),by decide⟩
theorem Vf.cC{s:Q3}(h:Vf s):SmN 8 s:=⟨by have:=h.bz;omega,by have:=h.pb;omega,by have:=h.td;omega,by have:=h.rn;omega,h.pl,λp hp=>by have:=h.ps p hp;omega,by have:=h.ll;omega⟩
def NB(l:List Q9):Prop:=l.length<=8/\∀n,n∈l->n.ft.size<=10000
theorem sE:NB []:=⟨Nat.zero_le _,λ_ h=>nomatch h⟩
theorem nb1{n:Q9}(h:n.ft.size<=10000):NB [n]:=⟨show 1<=8 by decide,(by grind)⟩
def PP(r:Q3×List Q9):Prop:=SmN 8 r.1/\NB r.2
def OP(x:Out):Prop:=∀r,x=.inl r->PP r
theorem OJ{x:Q3×List Q9}(h:PP x):OP (.inl x):=λ_ e=>Sum.inl.inj e▸h
theorem HZ{q:Bool×Int}:OP (.inr q):=λ_ e=>nomatch e
theorem JF{c:Prop}[Decidable c]{x y:Out}(hx:OP x)(hy:OP y):OP (if c then x else y):=by grind
theorem Qjc{c:Bool}{x y:Out}(hx:OP x)(hy:OP y):OP (bif c then x else y):=by grind
theorem uD(s:Q3)(b:ze)(h:Vf s)(hb:b.size<=4000):OP (S8 s b):=by
 have z:=h.cC;have z5:=h.rn;unfold S8;refine JF HZ (JF HZ (OJ ⟨⟨z.bd,z.pb,?_,z.rn,z.pr,z.ps,show 1<=8 by decide⟩,nb1 ?_⟩))
 ·grind [K0,ByteArray.size_append,F7,Zx,Uw]
 grind [ByteArray.size_append,F7,Uw]
theorem qH(s:Q3)(b:ze)(h:Vf s)(hb:b.size<=4000):OP (O1 s b):=by
 have z:=h.cC;have z2:=h.bz;have z3:=h.td;have e1:(Jl s b).size=s.fq.size+(4+b.size):=by unfold Jl;rw[ByteArray.size_append,K0]
 have e2:(HH s b).size=32+s.fh.size:=by unfold HH;rw[ByteArray.size_append,M9]
 have e3:(Jl s b++Zx 4 (HH s b)).size<=10000:=by rw[ByteArray.size_append,K0];omega
 unfold O1;generalize Jl s b++Zx 4 (HH s b)=T at *;generalize HH s b=B at *;generalize Xs s b=M;refine JF HZ (JF HZ (JF HZ (JF HZ (OJ ⟨⟨z.bd,?_,e3,z.rn,z.pr,z.ps,show 1<=8 by decide⟩,(by grind [nb1])⟩))));show (b.extract 64 b.size).size<=10000;rw[ByteArray.size_extract];omega
theorem rN(s:Q3)(b:ze)(h:Vf s)(hb:b.size<=4000):OP (Hc s b):=by
 have z:=h.cC;have z3:=h.td;unfold Hc;refine JF HZ (JF HZ (OJ ⟨⟨z.bd,z.pb,?_,z.rn,z.pr,z.ps,show 0<=8 by decide⟩,sE⟩));grind [ByteArray.size_append,K0,Zx]
theorem eJ(s:Q3)(f b:ze)(h:Vf s)(hb:b.size<=4000):OP (G1 s f b):=by
 have z:=h.cC;have z2:=h.bz;have z3:=h.td;have z5:=h.rn;have e1:(Dx s b).size=s.fq.size+(4+b.size):=by unfold Dx;rw[ByteArray.size_append,K0]
 have e2:(HJ s).size=s.fG.size+32+s.fh.size:=by grind [ByteArray.size_append,F7,HJ]
 have e3:(Dx s b++Zx 3 (HJ s)).size<=10000:=by rw[ByteArray.size_append,K0];omega
 unfold G1;have e4:(V2 s.gb (f++b.extract 0 64)).size=32:=B8 _ _;generalize V2 s.gb (f++b.extract 0 64)=M at *;generalize Dx s b++Zx 3 (HJ s)=T at *;generalize HJ s=B at *;exact JF HZ (JF (JF HZ (OJ ⟨⟨z.bd,z.pb,z.td,z.rn,z.pr,z.ps,show 1<=8 by decide⟩,(by grind [nb1])⟩)) (OJ ⟨⟨z.bd,show 0<=10000 by decide,e3,z.rn,z.pr,z.ps,show 1<=8 by decide⟩,(by grind [nb1])⟩))
theorem uN(s:Q3)(b:ze)(h:Vf s)(hb:b.size<=4000):OP (R6 s b):=by
 have z:=h.cC;have z3:=h.td;have e1:(Ml s b).size=s.fq.size+(4+b.size):=by unfold Ml;rw[ByteArray.size_append,K0]
 have e2:(Wh s b).size=32:=M9 _ _ _;have e3:(Ml s b++Zx 5 (Wh s b)).size<=10000:=by rw[ByteArray.size_append,K0];omega
 unfold R6;generalize Ml s b++Zx 5 (Wh s b)=T at *;generalize Wh s b=C at *;generalize K3 (Um s b) Yc (s.fq++b.extract 32 b.size)=D;generalize Um s b=M;refine JF HZ (JF HZ (JF HZ (JF HZ (JF HZ (OJ ⟨⟨z.bd,?_,e3,z.rn,z.pr,z.ps,show 1<=8 by decide⟩,(by grind [nb1])⟩)))));show (b.extract 32 b.size).size<=10000;rw[ByteArray.size_extract];omega
theorem Qew(s:Q3)(v:Q7)(h:Vf s)(hl:NB s.fP)(hb:v.fw=2->v.fM.ft.size<=4000):OP (Kx s v):=by
 have z:=h.cC;unfold Kx;split
 ·unfold HR;refine Qjc (OJ ⟨⟨z.bd,z.pb,z.td,z.rn,z.pr,z.ps,show 1<=8 by decide⟩,nb1 ?_⟩) HZ;show (s.fG++Uw s).size<=10000;rw[ByteArray.size_append,F7,h.rn];decide
 split
 ·rename_i hk;have hb:=hb hk;unfold U9;exact JF (uD s _ h hb) (JF (qH s _ h hb) (JF (rN s _ h hb) (JF (eJ s _ _ h hb) (JF (uN s _ h hb) HZ))))
 split
 ·unfold HI;exact Qjc (OJ ⟨z,sE⟩) (Qjc HZ (OJ ⟨⟨z.bd,z.pb,z.td,z.rn,z.pr,z.ps,z.ls⟩,hl⟩))
 ·refine OJ ⟨z,?_⟩;grind [sE,NB]
theorem nR{s:Q3}(h:QZ s=true):NB s.fP:=by
 unfold QZ at h;simp only[zL] at h;obtain⟨x,_,hl⟩:=List.any_eq_true.1 h.2;unfold F5 at hl;simp only[zL] at hl;have l8:=hl.q.2.2.2;unfold V6 at l8;split at l8
 ·simp_all [zM,List.eq_nil_of_length_eq_zero,sE]
 ·split at l8
  ·rename_i hq;rw[hq];unfold B7 at l8;simp only[zL,zM] at l8;exact nb1 (by omega)
  ·cases l8
theorem oE(s:Q3)(v:Q7):SmN 8 (U7 s v).1/\NB (U7 s v).2.1:=by
 unfold U7;cases hv:QZ s with
 | false=>exact⟨smZ,sE⟩
 | true=>
  cases he:Bi s v with
  | false=>exact⟨smZ,sE⟩
  | true=>
   have vf:=I7 hv;unfold Bi at he;simp only[zL,zM] at he;obtain⟨k1,k2,k3,k4,k5,k6⟩:=he;have nw:=vf.nw;have hnw:T5 v.fm=true:=by
    unfold T5 at nw ⊢;grind
   have vf2:=vf.at hnw;have key:=Qew { s with fm:=v.fm } v vf2 (show NB s.fP from nR hv) λh2=>by
    rw[h2] at k6;have k6:B7 v.fM=true:=k6;unfold B7 at k6;grind
   rw[cond_true,cond_true];generalize Kx { s with fm:=v.fm } v=E at *;match E,key with
   | .inl r,key=>exact key r rfl
   | .inr (true,e),_=>have z:=vf2.cC;exact⟨⟨z.bd,show 0<=10000 by decide,show 0<=10000 by decide,z.rn,z.pr,z.ps,show 0<=8 by decide⟩,sE⟩
   | .inr (false,e),_=>exact⟨smZ,sE⟩
theorem gK(c:XN)(n:Q9)(hb:n.ft.size<=100000)(hc:0<=c.fB/\c.fB < 256):Qy (s11 c n) (λ_=>True):=by
 show Ok (g11 c n) _;unfold g11;have w:∀m:Int,0 < m->m<=100001->0<=Int.tmod (Q0 c.fB) m/\Int.tmod (Q0 c.fB) m < m:=λm h0 h1=>by
  rw[Z2 (by omega) (by omega),Int.tmod_eq_emod_of_nonneg hc.1];exact⟨Int.emod_nonneg _ (by omega),Int.emod_lt_of_pos _ h0⟩
 have e:Q0 ((n.ft.size:Int)+1)=(n.ft.size:Int)+1:=Z2 (by omega) (by omega);rw[e];have w1:=w ((n.ft.size:Int)+1) (by omega) (by omega);generalize Int.tmod (Q0 c.fB) ((n.ft.size:Int)+1)=A at *;refine Ok.e (λ_=>Ok.d trivial) λ_=>Ok.e (λ_=>Ok.d trivial) λ_=>Ok.e (λ_=>Ok.k (by simp;omega) (Ok.k (by simp;omega) (Ok.d trivial))) λ_=>Ok.e (λ_=>Ok.k (by rw[zM];show _+1<=_;omega) (Ok.d trivial)) λ_=>Ok.e (λhl=>?_) λ_=>Ok.d trivial;have hl:0 < n.ft.size:=by simp at hl;omega
 have el:(Q2 n.ft).length=n.ft.size:=J4 _;have w2:=w ((Q2 n.ft).length:Int) (by omega) (by omega);obtain⟨x,hx,hx'⟩:=G2 (l:=Q2 n.ft) (k:=(Int.tmod (Q0 c.fB) ((Q2 n.ft).length:Int)).toNat) ((Int.toNat_lt w2.1).2 w2.2);have hx':(Q2 n.ft)[0+(Int.tmod (Q0 c.fB) ((Q2 n.ft).length:Int)).toNat]?=some x:=by rw[we];exact hx'
 have c0:(!(((Q2 n.ft).length:Int)==0))=true:=by rw[wC,qi];omega
 have c1:(decide (0<=(Int.tmod (Q0 c.fB) ((Q2 n.ft).length:Int)))&&decide ((Int.tmod (Q0 c.fB) ((Q2 n.ft).length:Int)) < ((Q2 n.ft).length:Int)))=true:=by rw[zL,zM,zM];exact w2
 exact Ok.o (r:=()) rfl (Ok.k c0 (Ok.k c1 (Ok.r rfl hx' (Ok.k c1 (Ok.r rfl hx' (Ok.re (Ok.g (Ok.o (r:=()) rfl (Ok.d trivial)))))))))
theorem DO(k n:Int):Qy (Hf k n) (λr=>r.size=32):=by
 unfold Hf;refine Qy.fn ?_;unfold g43;refine Ok.b (R:=λe=>e.size=32) ?_ λe he=>Ok.d he;refine Ok.s 32 (by decide) (λk y=>y.1.size=k/\y.2=(k:Int)) ⟨rfl,rfl⟩ (λk y hy hk=>?_) λy hy=>?_
 ·obtain⟨h1,h2⟩:=hy;refine Ok.t (by grind) (Ok.k (by rw[zM,E1];grind) (Ok.d ⟨?_,?_⟩))
  ·grind [ByteArray.size_append,E1,strOfNums]
  grind [Z2,Q0]
 grind [Ok.f,Ok.d]
def GX(d:QM):Prop:=(0<=d.fF.a0/\d.fF.a0<=65535)/\(0<=d.fF.a1/\d.fF.a1<=65535)/\0<=d.gc.a0/\0<=d.gc.a1
theorem four(a:Int)(h:0<=a):Int.tmod a 4=0\/Int.tmod a 4=1\/Int.tmod a 4=2\/Int.tmod a 4=3:=by
 grind
theorem kV(b:Z7)(hv:L9 b=true):Qy (s47 b) (λr=>r=(E8 (Mq (W7 b)),0)):=by
 grind [oF,Qy.fn,Ok.c,Ez,Ok.f,Rq,Ok.d,s47,g47]
def L6(k n:Int):ze:=(Hf k n).o.getD zg
theorem JO(k n:Int):Qy (Hf k n) (λr=>r=L6 k n):=by
 obtain⟨r,h1,_⟩:=DO k n;exact⟨r,h1,by grind [L6]⟩
theorem F0(k n:Int):(L6 k n).size=32:=by
 obtain⟨r,h1,h2⟩:=DO k n;grind [L6]
attribute [irreducible] L6
def Yx(side:Int)(k u:Int):Z7:=⟨if side=0 then bs [99,108,105,101,110,116] else bs [115,101,114,118,101,114,46,101,120,97,109,112,108,101],N1 (L6 k side),0,u,side⟩
theorem Qih(k u:Int):Yx 0 k u=⟨bs [99,108,105,101,110,116],xS (L6 k 0) Jz,0,u,0⟩:=by unfold Yx N1;grind
theorem Qiu(k u:Int):Yx 1 k u=⟨bs [115,101,114,118,101,114,46,101,120,97,109,112,108,101],xS (L6 k 1) Jz,0,u,1⟩:=by simp_all [if_neg,Yx,N1]
theorem Kg{side k u:Int}(hs:side=0\/side=1)(hu:0<=u/\u<=65535):L9 (Yx side k u)=true:=by
 have z:=Jq (L6 k side);have n1:P8 (bs [99,108,105,101,110,116])=true:=by kernel_rfl
 have n2:P8 (bs [115,101,114,118,101,114,46,101,120,97,109,112,108,101])=true:=by kernel_rfl
 unfold L9 Yx;grind
theorem rU:((List.range 256).all λc=>HY (CP (c:Int))&&HY (CE (c:Int)))=true:=by decide +kernel
theorem Qyk{c:Int}(h:0<=c/\c < 256):HY (CP c)=true/\HY (CE c)=true:=by
 obtain⟨n,rfl⟩:=Int.eq_ofNat_of_zero_le h.1;grind [List.all_eq_true,rU]
theorem cT:∀l:List Int,∀c,c∈HW l->0<=c/\c < 256:=by
 intro l;induction l with
 | nil=>grind [HW]
 | cons x l ih=>
  cases l with
  | nil=>
   intro c hc;simp only[HW,zY,wj,or_false] at hc;rcases hc with rfl|rfl<;>exact D1 _ _
  | cons y l=>
   intro c hc;simp only[HW,zY] at hc;rcases hc with rfl|rfl|rfl|hc
   ·exact D1 _ _
   ·exact D1 _ _
   ·decide
   grind
theorem EP{s:ze}(hz:s.size=32):YF (E8 s)=true:=by
 have hl:(Q2 s).length=32:=by rw[J4,hz]
 have hS:Q2 (E8 s)=Q2 V7++HW (Q2 s):=by unfold E8;rw[UR,N3 (cT _)]
 have hSz:(E8 s).size=103:=by rw[<-E7,hS,qc,Fk,hl];rfl
 have at8:∀i:Nat,i < 95->some (QQ (E8 s) ((8+i:Nat):Int))=(HW (Q2 s))[i]?:=λi hi=>by
  rw[<-S7 (s:=E8 s) (k:=8+i) (by omega),hS,wJ (by rw[E7];show 8<=_;omega)];rw[E7,show 8+i - V7.size=i from by show 8+i - 8=i;omega]
 unfold YF;rw[wg hSz,Bool.true_and,zL,zM,zN];refine⟨by unfold E8;exact Gx rfl,λi hi=>?_⟩;have hi:i < 95:=by simpa using hi
 have h1:=at8 i hi;have hg:(Q2 s)[i / 3]?=some (QQ s ((i / 3:Nat):Int)):=S7 (by omega);obtain⟨g0,g1,g2⟩:=Fm (Q2 s) (i / 3) _ hg;have hx:=Qyk (D1 s ((i / 3:Nat):Int));unfold VK;by_cases c2:i % 3=2
 ·grind
 ·rw[if_neg c2];by_cases c0:i % 3=0
  ·grind
  grind
def Of(A:Int)(o q:ze):List ze:=if A=0 then [q] else if A=1 then [o,q] else if A=2 then [o] else []
def FY(k:Int):ze:=E8 (L6 k 7)
def HC(b:Z7):ze:=E8 (Mq (W7 b))
def X2(d:QM):Ends where
 sc:=L6 d.fH.a0 0
 bc:=W7 (Yx 0 d.fH.a0 d.fF.a0)
 fc:=L6 d.fH.a0 2
 rc:=L6 d.fH.a0 4
 pc:=Of (Int.tmod d.gc.a0 4) (FY d.fH.a0) (HC (Yx 1 d.fH.a1 d.fF.a1))
 ss:=L6 d.fH.a1 1
 bv:=W7 (Yx 1 d.fH.a1 d.fF.a1)
 fs:=L6 d.fH.a1 3
 rs:=L6 d.fH.a1 5
 ck:=L6 d.fH.a1 5
 pv:=Of (Int.tmod d.gc.a1 4) (FY d.fH.a0) (HC (Yx 0 d.fH.a0 d.fF.a0))
 n:=d.ga
def Xy(d:QM):Prop:=GX d/\0<=d.ga/\d.ga<=65535
theorem FZ{A:Int}{o q:ze}(ho:YF o=true)(hq:YF q=true):Uk { Fw with fL:=Of A o q }=true:=by
 grind [Uk,Of]
theorem XE{side:Int}{sec bdg fr rn ck:ze}{ps:List ze}{n:Int}(hs:side=1\/side=2)(h1:sec.size=32)(h2:fr.size=32)(h3:rn.size=32)(hk:if side=2 then ck.size=32 else ck=zg)(hb:okB bdg=true)(hp:Uk { Fw with fL:=ps }=true)(hn:0<=n/\n<=65535):QZ (Yg side sec bdg fr rn ck ps n)=true:=by
 refine C5 ((M0 _).2 ⟨T4.2 (show 0<=n/\n<=1099511627776 by omega),JE h1,JE h2,JE h3,?_,hp,hb,Fz,rfl⟩) ?_
 ·show UY (Yg side sec bdg fr rn ck ps n)=true;unfold UY Yg;split at hk
  ·simp_all [if_pos,JE]
  ·rename_i h;rw[if_neg h,hk];rfl
 ·rcases hs with rfl|rfl
  ·exact F4 ⟨1,1,0,0,0,0,0,false⟩ (by simp[Y8]) ⟨rfl,rfl,(show (0:Int)<=0 by decide),(show (0:Int)<=0 by decide),rfl,rfl,MB rfl rfl,Wg rfl⟩
  ·exact F4 ⟨2,1,0,0,0,0,0,false⟩ (by simp[Y8]) ⟨rfl,rfl,(show (0:Int)<=0 by decide),(show (0:Int)<=0 by decide),rfl,rfl,MB rfl rfl,Wg rfl⟩
theorem ML(b:Z7):YF (HC b)=true:=EP (WO _)
theorem Di(d:QM)(h:Xy d):R3 (X2 d):=by
 obtain⟨⟨u1,u2,_⟩,hb⟩:=h;have v0:=Kg (side:=0) (k:=d.fH.a0) (.inl rfl) u1;have v1:=Kg (side:=1) (k:=d.fH.a1) (.inr rfl) u2;have po:YF (FY d.fH.a0)=true:=EP (F0 _ _);refine⟨?_,?_,?_,?_⟩
 ·exact XE (side:=1) (sec:=(X2 d).sc) (bdg:=(X2 d).bc) (fr:=(X2 d).fc) (rn:=(X2 d).rc) (ck:=zg) (ps:=(X2 d).pc) (n:=(X2 d).n) (.inl rfl) (F0 d.fH.a0 0) (F0 d.fH.a0 2) (F0 d.fH.a0 4) (by grind) (Yn v0).1 (FZ po (ML _)) hb
 ·exact XE (side:=2) (sec:=(X2 d).ss) (bdg:=(X2 d).bv) (fr:=(X2 d).fs) (rn:=(X2 d).rs) (ck:=(X2 d).ck) (ps:=(X2 d).pv) (n:=(X2 d).n) (.inr rfl) (F0 d.fH.a1 1) (F0 d.fH.a1 3) (F0 d.fH.a1 5) (by rw[if_pos rfl];exact F0 d.fH.a1 5) (Yn v1).1 (FZ po (ML _)) hb
 ·show (Zm (W7 (Yx 0 d.fH.a0 d.fF.a0))).fJ=_;rw[(Yn v0).2];rfl
 ·show (Zm (W7 (Yx 1 d.fH.a1 d.fF.a1))).fJ=_;rw[(Yn v1).2];rfl
theorem Vp(d:QM)(hu:GX d):Qy (s41 d) (λr=>r.a0=Yx 0 d.fH.a0 d.fF.a0/\r.a1=Yx 1 d.fH.a1 d.fF.a1):=by
 unfold s41;refine Qy.fn ?_;unfold g41;obtain⟨u1,u2,_⟩:=hu;have w1:Q0 d.fF.a0=d.fF.a0:=Z2 (by omega) (by omega);have w2:Q0 d.fF.a1=d.fF.a1:=Z2 (by omega) (by omega);refine Ok.tt (Ok.c (JO _ _) λr1 h1=>Ok.c AX λr2 h2=>Ok.c (SU r1 r2 (by rw[h1];exact F0 _ _) (by rw[h2];exact Ku)) λr3 h3=>Ok.tt (Ok.c (JO _ _) λr4 h4=>Ok.c AX λr5 h5=>Ok.c (SU r4 r5 (by rw[h4];exact F0 _ _) (by rw[h5];exact Ku)) λr6 h6=>Ok.ff (Ok.d ⟨?_,?_⟩)))
 ·grind [Qih,bs,Q0]
 grind [Qiu,bs,Q0]
theorem mW{side now:Int}{sec bdg fr rn ck k:ze}{ps:List ze}(h:QZ (Yg side sec bdg fr rn ck ps now)=true)(h1:(Zm bdg).fJ=k)(h2:xS sec Jz=k):SI side sec bdg fr rn ck ps now=(Yg side sec bdg fr rn ck ps now,0):=by
 unfold SI;rw[h,h1,h2,wg rfl];rfl
theorem Yz{a1 a2 a3 a4 a5:Nat}{k1 n1 k2 n2 k3 n3 side now:Int}{b:Z7}{ck:ze}{ps:List ze}{Q:Q3->Prop}(hv:L9 b=true)(hf:QZ (Yg side (L6 k1 n1) (W7 b) (L6 k2 n2) (L6 k3 n3) ck ps now)=true)(hk:(Zm (W7 b)).fJ=N1 (L6 k1 n1))(hq:Q (Yg side (L6 k1 n1) (W7 b) (L6 k2 n2) (L6 k3 n3) ck ps now)) :
  Ok (.call a1 (Hf k1 n1) [] [] λr=>.call a2 (TX b) [] [] λr2=>.call a3 (Hf k2 n2) [] [] λr3=>.call a4 (Hf k3 n3) [] [] λr4=>.call a5 (iI side r r2 r3 r4 ck ps now) [] [] λx=>.done x.1:TT Q3) Q:=by
 refine Ok.c (JO _ _) λr h=>Ok.c (AO b hv) λr2 h2=>Ok.c (JO _ _) λr3 h3=>Ok.c (JO _ _) λr4 h4=>?_;subst h;subst h2;subst h3;subst h4;refine Ok.c (kK side _ _ _ _ ck ps now (I7 hf).sm) λx hx=>Ok.d ?_;have e:SI side (L6 k1 n1) (W7 b) (L6 k2 n2) (L6 k3 n3) ck ps now=(Yg side (L6 k1 n1) (W7 b) (L6 k2 n2) (L6 k3 n3) ck ps now,0):=by
  exact mW hf hk rfl
 grind
theorem kJ(d:QM)(h:Xy d):Qy (s15 d) (λr=>r.a0=CT (X2 d)/\r.a1=Oy (X2 d)):=by
 have ff:=Di d h;obtain⟨hu,hb⟩:=h;obtain⟨u1,u2,u3,u4⟩:=id hu;have v0:=Kg (side:=0) (k:=d.fH.a0) (.inl rfl) u1;have v1:=Kg (side:=1) (k:=d.fH.a1) (.inr rfl) u2;unfold s15;refine Qy.fn ?_;unfold g15;rw[Z2 (n:=d.ga) (by omega) (by omega)];have f0:=four _ u3;have f1:=four _ u4;have p0:(X2 d).pc=Of (Int.tmod d.gc.a0 4) (FY d.fH.a0) (HC (Yx 1 d.fH.a1 d.fF.a1)):=rfl;have p1:(X2 d).pv=Of (Int.tmod d.gc.a1 4) (FY d.fH.a0) (HC (Yx 0 d.fH.a0 d.fF.a0)):=rfl;have q0:∀ps,ps=(X2 d).pc->Yg 1 (L6 d.fH.a0 0) (W7 (Yx 0 d.fH.a0 d.fF.a0)) (L6 d.fH.a0 2) (L6 d.fH.a0 4) zg ps d.ga=CT (X2 d):=λps e=>by rw[e];rfl
 have q1:∀ps,ps=(X2 d).pv->Yg 2 (L6 d.fH.a1 1) (W7 (Yx 1 d.fH.a1 d.fF.a1)) (L6 d.fH.a1 3) (L6 d.fH.a1 5) (L6 d.fH.a1 5) ps d.ga=Oy (X2 d):=λps e=>by rw[e];rfl
 have kc:(Zm (W7 (Yx 0 d.fH.a0 d.fF.a0))).fJ=N1 (L6 d.fH.a0 0):=ff.kc;have ks:(Zm (W7 (Yx 1 d.fH.a1 d.fF.a1))).fJ=N1 (L6 d.fH.a1 1):=ff.ks;have fc:=ff.c;have fs:=ff.s;generalize X2 d=E at p0 p1 q0 q1 fc fs ⊢;generalize Int.tmod d.gc.a0 4=A at *;generalize Int.tmod d.gc.a1 4=B at *;refine Ok.c (Vp d hu) λbg hb2=>Ok.c (JO _ _) λr1 h1=>?_;subst h1;obtain⟨g0,g1⟩:=hb2;refine Ok.c (Mf _ (by rw[F0];decide)) λo ho=>?_;have ho:o=FY d.fH.a0:=ho;subst ho;rw[g0,g1];refine Ok.tt (Ok.b (R:=λe=>e=CT E) ?_ λe he=>Ok.tt (Ok.b (R:=λe=>e=Oy E) ?_ (by grind [Ok.ff,Ok.d])))
 ·refine Ok.c (AI _ v1) λq hq=>?_;have hq:q=HC (Yx 1 d.fH.a1 d.fF.a1):=hq;subst hq;rcases f0 with rfl|rfl|rfl|rfl
  ·exact Ok.Ko rfl (Ok.ff (Ok.g (Yz v0 ((congrArg QZ (q0 _ p0.symm)).trans fc) kc (q0 _ p0.symm))))
  ·exact Ok.Ko rfl (Ok.ff (Ok.g (Yz v0 ((congrArg QZ (q0 _ p0.symm)).trans fc) kc (q0 _ p0.symm))))
  ·exact Ok.Ko rfl (Ok.ff (Ok.g (Yz v0 ((congrArg QZ (q0 _ p0.symm)).trans fc) kc (q0 _ p0.symm))))
  ·exact Ok.Ko rfl (Ok.ff (Yz v0 ((congrArg QZ (q0 _ p0.symm)).trans fc) kc (q0 _ p0.symm)))
 ·refine Ok.c (AI _ v0) λq hq=>?_;have hq:q=HC (Yx 0 d.fH.a0 d.fF.a0):=hq;subst hq;rcases f1 with rfl|rfl|rfl|rfl
  ·refine Ok.Ko rfl (Ok.tt (Ok.c (JO _ _) λr hr=>?_));subst hr;exact Ok.g (Yz v1 ((congrArg QZ (q1 _ p1.symm)).trans fs) ks (q1 _ p1.symm))
  ·refine Ok.Ko rfl (Ok.tt (Ok.c (JO _ _) λr hr=>?_));subst hr;exact Ok.g (Yz v1 ((congrArg QZ (q1 _ p1.symm)).trans fs) ks (q1 _ p1.symm))
  ·refine Ok.Ko rfl (Ok.tt (Ok.c (JO _ _) λr hr=>?_));subst hr;exact Ok.g (Yz v1 ((congrArg QZ (q1 _ p1.symm)).trans fs) ks (q1 _ p1.symm))
  ·refine Ok.Ko rfl (Ok.tt (Ok.c (JO _ _) λr hr=>?_));subst hr;exact Yz v1 ((congrArg QZ (q1 _ p1.symm)).trans fs) ks (q1 _ p1.symm)
theorem jD{α:Type}{s:EV.Spec Tryz.prog GG α}{g:TT α}{Q:α->Prop}(h:s.o=g.run)(k:Ok g Q):Qy s Q:=let ⟨r,h1,h2⟩:=k;⟨r,h.trans h1,h2⟩
theorem Qqp(a:Int)(b c d:ze)(e:List ze):(Cj a b c d e).o=(eL a b c d e).run:=rfl
theorem Ev{b:Z7}{l:List ze}{n:Int}(hv:L9 b=true)(hp:Uk { Fw with fL:=l }=true)(hm:HC b∈l)(hn:0<=n/\n<=1099511627776)(h1:b.fI<=n)(h2:n<=b.fF):Yo b l n=0:=by
 unfold Uk at hp;simp only[zL,zM] at hp;have g1:(l.any λx=>!YF x)=false:=by
  rw[List.any_eq_false];intro x hx;have:=zN.1 hp.2 x hx;simp[this]
 have g2:decide (8 < l.length)=false:=by simp;omega
 have g3:(l.any λx=>decide (E8 (Mq (W7 b))=x))=true:=List.any_eq_true.2 ⟨_,hm,by rw[zM];rfl⟩;have g4:(decide (n < 0) || decide (1099511627776 < n))=false:=by simp;omega
 have g5:(decide (n < b.fI) || decide (b.fF < n))=false:=by simp;omega
 have gm:SR b l=0:=by unfold SR;rw[hv,g1,g2,g3];rfl
 unfold Yo;rw[gm,g4,g5];rfl
def Eu:ze:=bs [110,101,97,114]
def Oq(m:UInt8):ze:=Qqa (bs [m]) 32
def AJ(m k:UInt8):ze:=Qqa (bs [m]++bs [k]) 16
def DL(nm m:UInt8):Z7:=⟨bs [nm],N1 (Oq m),0,100000,7⟩
def qX:Ends where
 sc:=Oq 7
 bc:=W7 (DL 99 7)
 fc:=AJ 7 1
 rc:=AJ 7 2
 pc:=[HC (DL 115 5)]
 ss:=Oq 5
 bv:=W7 (DL 115 5)
 fs:=AJ 5 1
 rs:=AJ 5 2
 ck:=Oq 9
 pv:=[HC (DL 99 7)]
 n:=1000
theorem Ct{nm m:UInt8}(h:P8 (bs [nm])=true):L9 (DL nm m)=true:=by
 have z:=Jq (Oq m);unfold L9 DL;simp only[h,Bool.true_and,zL,zM];exact⟨z,by decide,by decide,by decide,by decide,by decide⟩
theorem Nk:L9 (DL 99 7)=true:=Ct (by kernel_rfl)
theorem yI:L9 (DL 115 5)=true:=Ct (by kernel_rfl)
theorem WB(b:Z7):Uk { Fw with fL:=[HC b] }=true:=by unfold Uk;simp[ML]
theorem z1S(m:UInt8):(Oq m).size=32:=rfl
theorem z2S(m k:UInt8):(AJ m k).size=32:=rfl
theorem Qw3:(0:Int)<=1000/\(1000:Int)<=65535:=by decide
theorem shA(ps:List ze)(h:Uk { Fw with fL:=ps }=true):QZ (Yg 1 (Oq 7) (W7 (DL 99 7)) (AJ 7 1) (AJ 7 2) zg ps 1000)=true:=XE (.inl rfl) (z1S _) (z2S _ _) (z2S _ _) (by rw[if_neg (by decide)]) (Yn Nk).1 h Qw3
theorem shS(ps:List ze)(h:Uk { Fw with fL:=ps }=true):QZ (Yg 2 (Oq 5) (W7 (DL 115 5)) (AJ 5 1) (AJ 5 2) (Oq 9) ps 1000)=true:=XE (.inr rfl) (z1S _) (z2S _ _) (z2S _ _) (by rw[if_pos rfl];exact z1S _) (Yn yI).1 h Qw3
theorem nT{b:Z7}(h:L9 b=true):(Zm (W7 b)).fJ=b.fJ:=by rw[(Yn h).2]
theorem Qul:R3 qX:=⟨shA _ (WB _),shS _ (WB _),nT Nk,nT yI⟩
theorem wAC:aC qX=0:=by
 show Yo (Zm (W7 (DL 115 5))) [HC (DL 115 5)] 1000=0;rw[(Yn yI).2];exact Ev yI (WB _) (wG.2 rfl) (by decide) (show (0:Int)<=1000 by decide) (show (1000:Int)<=100000 by decide)
theorem wAS:aS qX=0:=by
 show Yo (Zm (W7 (DL 99 7))) [HC (DL 99 7)] 1000=0;rw[(Yn Nk).2];exact Ev Nk (WB _) (wG.2 rfl) (by decide) (show (0:Int)<=1000 by decide) (show (1000:Int)<=100000 by decide)
def nb(x:ze):List Nat:=x.data.toList.map UInt8.toNat
theorem Qjo{x y:ze}(h:(nb x==nb y)=true):x=y:=by
 unfold nb at h;have h:=eq_of_beq h;have h2:x.data.toList=y.data.toList:=by
  grind [List.map_inj_right,UInt8.toNat_inj,UInt8.toNat]
 cases x;simp_all
def wH:ze:=bs [7,2,7,2,7,2,7,2,7,2,7,2,7,2,7,2,7,2,7,2,7,2,7,2,7,2,7,2,7,2,7,2,153,60,32,217,146,32,39,67,110,213,91,90,76,60,160,114,240,180,235,215,238,139,2,55,112,171,0,137,185,103,102,99]
theorem wHe:(nb (eH qX)==nb wH)=true:=by kernel_rfl
theorem wNe:(nb (V2 (bs [9,9,9,9,9,9,9,9,9,9,9,9,9,9,9,9,9,9,9,9,9,9,9,9,9,9,9,9,9,9,9,9]) (G4++wH))==nb (V2 (bs [9,9,9,9,9,9,9,9,9,9,9,9,9,9,9,9,9,9,9,9,9,9,9,9,9,9,9,9,9,9,9,9]) (Eu++wH)))=false:=by kernel_rfl
theorem Quo:eK qX≠V2 qX.ck (Eu++eH qX):=λe=>by
 unfold eK at e;rw[Qjo wHe] at e;have e:V2 (Oq 9) (G4++wH)=V2 (Oq 9) (Eu++wH):=e;have h:=wNe;rw[show bs [9,9,9,9,9,9,9,9,9,9,9,9,9,9,9,9,9,9,9,9,9,9,9,9,9,9,9,9,9,9,9,9]=Oq 9 by kernel_rfl,e,beq_self_eq_true] at h;cases h
def Qx0(s:Q3)(p:ze):Bool×ze×Int×Int×Int×ze×ze×ze×ze×ze×(List ze)×Int×ze×ze×ze×ze×ze×(List Q9)×Int×Int×Int×Int:=
 (true,p,s.fp,s.fk,s.fm,s.gd,s.fh,s.fZ,s.fG,s.gb,s.fL,s.fo,s.fq,s.fj.fG,s.fj.fR,s.fj.fh,s.fC,s.fP,s.fD.fB,s.fD.fY,s.fD.fO,s.ge)
theorem Qz8:Qy (s80 1 (bs [99]) (bs [7]) zg []) (λr=>r=(Yg 1 (Oq 7) (W7 (DL 99 7)) (AJ 7 1) (AJ 7 2) zg [] 1000,HC (DL 99 7),true)):=by
 have f:=shA [] rfl;unfold s80;refine Qy.fn ?_;unfold g80;refine Ok.c (Qy.o (r:=Oq 7) (by kernel_rfl)) λr hr=>Ok.c (WV r) λr2 hr2=>?_;subst hr;rw[if_pos (z1S 7)] at hr2;subst hr2;refine Ok.c (SA (DL 99 7)) λr hr=>Ok.c (kV (DL 99 7) Nk) λr2 hr2=>?_;rw[if_pos Nk] at hr;subst hr hr2;refine Ok.k (by decide) (Ok.c (Qy.o (r:=AJ 7 1) (by kernel_rfl)) λr hr=>Ok.k (by decide) (Ok.c (Qy.o (r:=AJ 7 2) (by kernel_rfl)) λr2 hr2=>?_));subst hr hr2;refine Ok.c (kI 1 (Oq 7) (W7 (DL 99 7)) (AJ 7 1) (AJ 7 2) zg [] 1000 (I7 f).sm) λr hr=>?_;rw[mW (k:=N1 (Oq 7)) f (nT Nk) rfl] at hr;subst hr;exact Ok.t rfl (Ok.t rfl (Ok.t rfl (Ok.d rfl)))
theorem kD{a:Int}{b m:UInt8}{ck:ze}{ps:List ze}(v:L9 (DL b m)=true)(f:QZ (Yg a (Oq m) (W7 (DL b m)) (AJ m 1) (AJ m 2) ck ps 1000)=true):Qy (Cj a (bs [b]) (bs [m]) ck ps) (λr=>r=Qx0 (Yg a (Oq m) (W7 (DL b m)) (AJ m 1) (AJ m 2) ck ps 1000) (HC (DL b m))):=by
 refine jD (Qqp _ _ _ _ _) ?_;unfold eL;refine Ok.c (Qy.o (r:=Oq m) (by kernel_rfl)) λr hr=>Ok.c (WV r) λr2 hr2=>?_;subst hr;rw[if_pos (z1S m)] at hr2;subst hr2;refine Ok.c (SA (DL b m)) λr hr=>Ok.c (kV (DL b m) v) λr2 hr2=>?_;rw[if_pos v] at hr;subst hr hr2;refine Ok.g (Ok.k (by rfl) (Ok.c (Qy.o (r:=AJ m 1) (by kernel_rfl)) λr hr=>Ok.k (by rfl) (Ok.c (Qy.o (r:=AJ m 2) (by kernel_rfl)) λr2 hr2=>?_)));subst hr hr2;refine Ok.c (kI a (Oq m) (W7 (DL b m)) (AJ m 1) (AJ m 2) ck ps 1000 (I7 f).sm) λr hr=>?_;rw[mW (k:=N1 (Oq m)) f (nT v) rfl] at hr;subst hr;exact Ok.t rfl (Ok.t rfl (Ok.t rfl (Ok.d rfl)))
theorem Qze:Qy s39 (λr=>r=(CT qX,Oy qX,true)):=by
 have key:Ok g39 (λr=>r=(CT qX,Oy qX,true)):=by
  unfold g39;refine Ok.c (Qy.o (r:=Oq 9) (by kernel_rfl)) λr hr=>Ok.c Qz8 λr2 hr2=>?_;subst hr hr2;refine Ok.c (kD yI (shS _ (WB _))) λr hr=>?_;subst hr;refine Ok.c (kD Nk (shA _ (WB _))) λr hr=>?_;subst hr;exact Ok.t rfl (Ok.t rfl (Ok.d rfl))
 grind [oF,Qy.fn,k39,s39]
theorem Dq{s s2:Q3}{f:ze}{n m:Q9}(hs:Sm s)(h:U7 s ⟨2,s.fm,f,n⟩=(s2,[m],0)):Qy (sZ s f n) (λr=>r=(s2,m,true)):=by
 unfold sZ;refine Qy.fn ?_;unfold g40;refine Ok.c (ZF s _ hs) λr hr=>?_;rw[h] at hr;subst hr;exact Ok.n (R:=λc=>c=false) (Ok.f rfl (Ok.d rfl)) λc hc=>Ok.f hc (Ok.r rfl rfl (Ok.d rfl))
theorem Gd{s:Q3}(h1:s.fp=1){now:Int}{f:ze}{n:Q9}(hf:f.size<=64):U7 s ⟨2,now,f,n⟩=U7 s ⟨2,now,G4,n⟩:=by
 have e1:Bi s ⟨2,now,f,n⟩=Bi s ⟨2,now,G4,n⟩:=by
  unfold Bi;rw[wg (show ((⟨2,now,f,n⟩:Q7).fI.size:Int)<=64 by show (f.size:Int)<=64;omega),wg (show (G4.size:Int)<=64 by decide)]
 have e2:U9 { s with fm:=now } f n=U9 { s with fm:=now } G4 n:=by
  have d:¬(({ s with fm:=now }:Q3).fp=2/\({ s with fm:=now }:Q3).fk=1/\n.fw=1):=λx=>absurd (h1.symm.trans x.1) (by decide);unfold U9;rw[if_neg d,if_neg d]
 have e3:Kx { s with fm:=now } ⟨2,now,f,n⟩=Kx { s with fm:=now } ⟨2,now,G4,n⟩:=e2;unfold U7;rw[e1];show (bif QZ s then bif _ then Gg _ (Kx { s with fm:=now } ⟨2,now,f,n⟩) else _ else _)=_;rw[e3]
theorem cG{s:Q3}{now k q:Int}{f b:ze}(hs:QZ s=true)(hn:s.fm=now)(hf:f.size<=64)(hk:0<=k/\k<=255)(hq:0<=q/\q < 65536)(hb:b.size<=4000):U7 s ⟨2,now,f,⟨k,q,b⟩⟩=Gg s (U9 s f ⟨k,q,b⟩):=
 qA hs (show (1:Int)<=2/\(2:Int)<=4 by decide) hn.symm hf λ_=>CY hk hq hb
section
variable {p:Ends}
theorem Qqu(h:R3 p)(hn:eK p≠V2 p.ck (Eu++eH p)):U7 (OH p) ⟨2,p.n,Eu,⟨1,1,eH p++eK p⟩⟩=(Me (OH p) 1 2 (V2 p.ck (Eu++eH p)),[⟨2,1,V2 p.ck (Eu++eH p)⟩],0):=by
 have zh:=h.zH;have z:=h.zHK;rw[cG (now:=p.n) h.s1 rfl (by decide) (by decide) (by decide) (by omega),Bh rfl rfl];have e0:(eH p++eK p).extract 0 64=eH p:=Gx zh;have e1:(eH p++eK p).extract 64 (eH p++eK p).size=eK p:=dX zh (by rw[ByteArray.size_append,zh]);unfold G1;rw[if_neg (by omega),e0,e1,if_pos (show eK p≠V2 (OH p).gb (Eu++eH p) from hn),if_neg (show ¬¬(OH p).fo < 6 from λx=>x (show (0+1:Int) < 6 by decide))];rfl
theorem runT(h:R3 p){t:Int}(ht:p.n<=t/\t<=1099511627776):U7 (KF p) ⟨3,t,zg,⟨0,0,zg⟩⟩=Gg { KF p with fm:=t } (HI { KF p with fm:=t }):=by
 rw[Nl h.c1]
 ·rfl
 ·unfold Bi;simp only[zL,zM,wi,bne_iff_ne];exact⟨by decide,by decide,ht.1,ht.2,by decide,.inl (by decide)⟩
end
theorem lS:Qy s14 (λr=>r=true):=by
 have key:∀p:Ends,p.n=1000->R3 p->aC p=0->aS p=0->eK p≠V2 p.ck (Eu++eH p)->Qy s39 (λr=>r=(CT p,Oy p,true))->Ok g14 (λr=>r=true):=λp pn h a0 b0 hne hch=>by
  have c3:=h.c3 a0;have e5:=Qqh h;rw[if_neg (λx=>x a0)] at e5;have e6:=Qhm h;rw[if_neg (λx=>x b0)] at e6;have q0:∀n,U7 (CT p) ⟨1,1000,zg,n⟩=(KF p,[⟨1,0,eH p⟩],0):=λn=>by rw[<-pn];exact EO h zg (by decide) n
  have zK:=@zK p;have q9:U7 (KF p) ⟨3,1399,zg,⟨0,0,zg⟩⟩=({ KF p with fm:=1399 },[],0):=by
   rw[runT h (by omega)];have:(KF p).fD=UX 1000:=by rw[<-pn];rfl
   unfold HI;rw[show ({ KF p with fm:=1399 }:Q3).fD=UX 1000 from this];rfl
  have q10:U7 (KF p) ⟨3,1400,zg,⟨0,0,zg⟩⟩=({ KF p with fm:=1400,fD:=⟨2200,800,2⟩ },[⟨1,0,eH p⟩],0):=by
   rw[runT h (by omega)];have:(KF p).fD=UX 1000:=by rw[<-pn];rfl
   unfold HI;rw[show ({ KF p with fm:=1400 }:Q3).fD=UX 1000 from this];rfl
  have q11:∀n,U7 (Oy p) ⟨1,1000,zg,n⟩=(Fw,[],8):=λn=>by
   rw[qA h.s (show (1:Int)<=1/\(1:Int)<=4 by decide) pn.symm (show ByteArray.empty.size<=64 by decide) (λx=>absurd x (show ¬(1:Int)=2 by decide))];rfl
  have q12:U7 (Oy p) ⟨2,1000,zg,⟨5,2,eD p⟩⟩=(Fw,[],8):=by
   rw[cG h.s pn (by decide) (by decide) (by decide) (by rw[show (eD p).size=32 from M9 _ _ _];decide)];rfl
  have zE:((eK p).extract 1 (eK p).size).size=31:=by rw[ByteArray.size_extract,zK];rfl
  have q13:U7 (KF p) ⟨2,1000,zg,⟨2,0,(eK p).extract 1 (eK p).size⟩⟩=(Fw,[],5):=by
   rw[cG h.c1 pn (by decide) (by decide) (by decide) (by omega),eU rfl (.inl rfl)];unfold S8;rw[if_pos (by omega)];rfl
  have m0:=(I7 h.c).sm;have ms:=(I7 h.s).sm;have m1:=(I7 h.c1).sm;have ms1:=(I7 h.s1).sm;unfold g14;refine Ok.c hch λr hr=>?_;subst hr;refine Ok.f rfl (Ok.c (ZF (CT p) _ m0) λr hr=>?_);rw[q0] at hr;subst hr;refine Ok.n (R:=λc=>c=false) (Ok.f rfl (Ok.f rfl (Ok.f rfl (Ok.r rfl rfl (Ok.f rfl (Ok.r rfl rfl (Ok.f (by show (((eH p).size:Int) != 64)=false;rw[h.zH];rfl) (Ok.r rfl rfl (Ok.d rfl))))))))) λc hc=>Ok.f hc (Ok.r rfl rfl ?_);refine Ok.c (Dq ms (lD h)) λr hr=>?_;subst hr;refine Ok.c (Dq m1 ((Gd rfl (by decide)).trans (lE h))) λr hr=>?_;subst hr;refine Ok.c (Dq ms1 (lM h)) λr hr=>?_;subst hr;refine Ok.c (Dq ms1 (Qqu h hne)) λr hr=>?_;subst hr;refine Ok.c (Dq (I7 h.c2).sm ((Gd rfl (by decide)).trans e5)) λr hr=>?_;subst hr;refine Ok.c (Dq (I7 h.s2).sm e6) λr hr=>?_;subst hr;refine Ok.n (R:=λc=>c=false) (Ok.f rfl (Ok.f rfl (Ok.f rfl (Ok.f rfl (Ok.f rfl (Ok.d rfl)))))) λc hc=>Ok.f hc ?_;refine Ok.c (ZF (CC p) _ (I7 c3).sm) λr hr=>?_;have e8:U7 (CC p) ⟨2,1000,zg,⟨5,2,eD p⟩⟩=(eC4 p,[],0):=by
   rw[<-pn];exact(Gd rfl (by decide)).trans (Qhk h a0)
  rw[e8] at hr;subst hr;refine Ok.n (R:=λc=>c=true) ?_ λc1 h1=>Ok.n (R:=λc=>c=true) ?_ λc2 h2=>?_
  ·iterate 5 refine Ok.t rfl ?_
   refine Ok.t (by show (((eH p++eK p).size:Int)==96)=true;rw[h.zHK];rfl) ?_;iterate 12 refine Ok.t rfl ?_
   exact Ok.d rfl
  ·refine Ok.t rfl (Ok.t rfl (Ok.t rfl (Ok.t (wg rfl) (Ok.t (wg rfl) (Ok.t ?_ (Ok.t (wg rfl) (Ok.d (wg rfl))))))));show (((eM p).size:Int)==32)=true;rw[show (eM p).size=32 from Ut _ _ _];rfl
  refine Ok.c (ZF (KF p) _ m1) λr hr=>?_;rw[q9] at hr;subst hr;refine Ok.c (ZF (KF p) _ m1) λr hr=>?_;rw[q10] at hr;subst hr;refine Ok.n (R:=λc=>c=true) ?_ λc3 h3=>?_
  ·exact Ok.t rfl (Ok.t rfl (Ok.t rfl (Ok.t rfl (Ok.t rfl (Ok.r rfl rfl (Ok.r rfl rfl (Ok.t (by simp) (Ok.d rfl))))))))
  refine Ok.c (ZF (Oy p) _ ms) λr hr=>?_;rw[q11] at hr;subst hr;refine Ok.c (ZF (Oy p) _ ms) λr hr=>?_;rw[q12] at hr;subst hr;refine Ok.k (by show (decide ((0:Int)<=1)&&decide ((1:Int)<=((eK p).size:Int)))=true;rw[zK];rfl) (Ok.c (ZF (KF p) _ m1) λr hr=>?_);rw[q13] at hr;subst hr;exact Ok.n (R:=λc=>c=true) (Ok.t h1 (Ok.t h2 (Ok.t h3 (Ok.t rfl (Ok.t rfl (Ok.d rfl)))))) λc hc=>Ok.d hc
 have k:=key qX rfl Qul wAC wAS Quo Qze;grind [oF,Qy.fn,k14,s14]
abbrev DlR:=List Q9×List Q9×Q3×Bool
theorem Qzn{s t:Q3}{p:Ends}{k q:Int}{b:ze}{l:List Q9}(h:U7 s (VL p k q b)=(t,l,0))(v:Bool)(q1 q2:List Q9):mtD s p.n v (⟨k,q,b⟩ :: q1) q2=(q1,q2++l,t,v):=by
 show (q1,XD s p.n v q2 2 ⟨k,q,b⟩)=_;unfold XD;have e:U7 s ⟨2,p.n,G4,⟨k,q,b⟩⟩=(t,l,0):=h;rw[e];rfl
def IS(d:QM):QM:=⟨d.fH,⟨65535,65535⟩,Int.tmod d.ga 30000,⟨Int.tmod d.gc.a0 2,Int.tmod d.gc.a1 2⟩⟩
theorem Ce{a:Int}(h:0<=a)(o q:ze):q∈Of (Int.tmod (Int.tmod a 2) 4) o q:=by
 grind [Int.tmod_eq_emod_of_nonneg,Int.tmod,Of]
theorem aQ{d:QM}(hd:Xy d):Xy (IS d)/\aC (X2 (IS d))=0/\aS (X2 (IS d))=0:=by
 obtain⟨⟨u1,u2,u3,u4⟩,hb⟩:=hd;have hn:0<=Int.tmod d.ga 30000/\Int.tmod d.ga 30000 < 30000:=by grind
 have k3:0<=Int.tmod d.gc.a0 2:=by grind
 have k4:0<=Int.tmod d.gc.a1 2:=by grind
 have v0:=Kg (side:=0) (k:=d.fH.a0) (u:=65535) (.inl rfl) (by decide);have v1:=Kg (side:=1) (k:=d.fH.a1) (u:=65535) (.inr rfl) (by decide);have po:YF (FY d.fH.a0)=true:=EP (F0 _ _);refine⟨⟨⟨(show (0:Int)<=65535/\(65535:Int)<=65535 by decide),(show (0:Int)<=65535/\(65535:Int)<=65535 by decide),k3,k4⟩,hn.1,by show Int.tmod d.ga 30000<=65535;omega⟩,?_,?_⟩
 ·show Yo (Zm (W7 (Yx 1 d.fH.a1 65535))) (Of (Int.tmod (Int.tmod d.gc.a0 2) 4) (FY d.fH.a0) (HC (Yx 1 d.fH.a1 65535))) (Int.tmod d.ga 30000)=0;rw[(Yn v1).2];exact Ev v1 (FZ po (ML _)) (Ce u3 _ _) (by omega) hn.1 (show Int.tmod d.ga 30000<=65535 by omega)
 ·show Yo (Zm (W7 (Yx 0 d.fH.a0 65535))) (Of (Int.tmod (Int.tmod d.gc.a1 2) 4) (FY d.fH.a0) (HC (Yx 0 d.fH.a0 65535))) (Int.tmod d.ga 30000)=0;rw[(Yn v0).2];exact Ev v0 (FZ po (ML _)) (Ce u4 _ _) (by omega) hn.1 (show Int.tmod d.ga 30000<=65535 by omega)
abbrev flT(q:List Q9)(c s:Q3)(n:Int)(v:Bool):=(q,c.fp,c.fk,c.fm,c.gd,c.fh,c.fZ,c.fG,c.gb,c.fL,c.fo,c.fq,c.fj.fG,c.fj.fR,c.fj.fh,c.fC,c.fP,c.fD.fB,c.fD.fY,c.fD.fO,c.ge,s.fp,s.fk,s.fm,s.gd,s.fh,s.fZ,s.fG,s.gb,s.fL,s.fo,s.fq,s.fj.fG,s.fj.fR,s.fj.fh,s.fC,s.fP,s.fD.fB,s.fD.fY,s.fD.fO,s.ge,n,v)
theorem Qu3(d:QM):(jP d).o=(eN d).run:=by kernel_rfl
theorem mZ(d:QM)(hd:Xy d):Qy (jP d) (λr=>r=flT [⟨1,0,eH (X2 (IS d))⟩] (KF (X2 (IS d))) (Oy (X2 (IS d))) (X2 (IS d)).n true):=by
 have hb:=(aQ hd).1;have h:=Di _ hb;have hn:0<=Int.tmod d.ga 30000/\Int.tmod d.ga 30000<=65535:=hb.2;refine jD (Qu3 d) ?_;unfold eN;rw[Z2 (n:=Int.tmod d.ga 30000) (by omega) (by omega)];refine Ok.g (Ok.g (Ok.c (kJ (IS d) hb) λr hr=>Ok.g (Ok.g ?_)));obtain⟨g0,g1⟩:=hr;rw[g0,g1];have e:Int.tmod d.ga 30000=(X2 (IS d)).n:=rfl;rw[e];generalize X2 (IS d)=p at *;refine Ok.c (AG _ (CT p) (Oy p) p.n true [] [] h.c (Nat.zero_le _)) λr hr=>?_;have hr:r=([⟨1,0,eH p⟩],KF p,true):=by
  rw[hr];unfold XD;rw[show U7 (CT p) ⟨(Q7.mk 1 0 zg (Q9.mk 0 0 zg)).fw,p.n,G4,(Q7.mk 1 0 zg (Q9.mk 0 0 zg)).fM⟩=(KF p,[⟨1,0,eH p⟩],0) from EO h G4 (by decide) _];rfl
 subst hr;exact Ok.d rfl
def g21(p0:Q9)(p1 p2:Int)(p3:Bool)(p4 p5:Int):TT (Bool×Int×Int×ze×Int):=.br 0 ((Q0 ((Q0 (p1+1)) - 1)) != (Int.tmod (Q0 p2) 8)) (.done (p3,p0.fw,p0.fV,p0.ft,(Q0 (p1+1)))) (.cl 5005 (s11 (XN.mk 4 p4 p5 0) p0) λr1620=>.done (true,r1620.fw,r1620.fV,r1620.ft,(Q0 (p1+1))))
def s21(p0:Q9)(p1 p2:Int)(p3:Bool)(p4 p5:Int):Sp (Bool×Int×Int×ze×Int):=.Zk 21 [] Z1 Tryz.func21 rfl (λ_=>rfl) (show Jf Pg GG [0,1,2,3,4,5,6,7,15] Tryz.f21 [.agg (Z3.c p0),.ptr zI 0 0,.ptr zR 0 0,.ptr zU 0 0,.ptr wa 0 0,.ptr wc 0 0] (Ext.of .normal (U5 [.agg (Z3.c p0),.ptr zI 0 0,.ptr zR 0 0,.ptr zU 0 0,.ptr wa 0 0,.ptr wc 0 0]) [(zI,⟨1,true,[[.i p1]]⟩),(zR,⟨1,true,[[.int .u8 p2]]⟩),(zU,⟨1,true,[[.bool p3]]⟩),(wa,⟨1,true,[[.int .u8 p4]]⟩),(wc,⟨1,true,[[.int .u8 p5]]⟩)] [] (by rfl)) (g21 p0 p1 p2 p3 p4 p5) (λ(r:Bool×Int×Int×ze×Int)=>.agg [.i r.2.1,.i r.2.2.1,.str r.2.2.2.1]) (λ(r:Bool×Int×Int×ze×Int)=>Ext.of .normal [] [(zI,⟨1,true,[[.i r.q]]⟩),(zR,⟨1,true,[[.int .u8 p2]]⟩),(zU,⟨1,true,[[.bool r.1]]⟩),(wa,⟨1,true,[[.int .u8 p4]]⟩),(wc,⟨1,true,[[.int .u8 p5]]⟩)] [] (by rfl)) by unfold Jf;kernel_rfl)
def eP(p0 p1:Q3)(p2:Int)(p3:Bool)(p4 p5:Int)(p6:Bool)(p7 p8:Int)(p9 p10:List Q9):TT ((List Q9)×(List Q9)×Q3×Bool×Int×Bool):=.br 0 ((p10.length:Int)==0) (.gh 0 (.Qb wn zV) (.gh 0 (.Qb wo wk) (.done (p9,p10,p1,p3,p4,p6)))) (.Qa 1007 (bD 0 p10.length) (.row 1008 Z3 p10 0 true λx1619=>.Qa 2009 (decide (0<=(1:Int))&&decide ((1:Int)<=(p10.length:Int))) (.gh 5 (.Qb wo 502957) (.Xr 5 502957 Z3 p10 1 (λ_=>rfl) (.gh 5 (.len 502957 ((p10.drop 1).length) [(p10.length - 1)] (by simp)) (.call 3005 (s21 x1619 p4 p5 p6 p7 p8) [(zI,zR),(zR,zU),(zU,wa),(wa,wc),(wc,wl)] [] λr1621=>.call 3007 (sY (Q7.mk 2 0 zg (Q9.mk r1621.2.1 r1621.2.2.1 r1621.2.2.2.1)) p0 p1 p2 p3 p9 (p10.drop 1)) [(zI,zI),(zR,wn),(zU,502957)] [(zV,502958)] λr1622=>.gh 0 (.Qb 502958 zV) (.gh 0 (.Qb 502957 wk) (.done (r1622.1,(p10.drop 1),r1622.2.1,r1622.2.2,r1621.q,r1621.1)))))))))
def Hn(p0 p1:Q3)(p2:Int)(p3:Bool)(p4 p5:Int)(p6:Bool)(p7 p8:Int)(p9 p10:List Q9):Sp ((List Q9)×(List Q9)×Q3×Bool×Int×Bool):=.Zk 18 [zV,wk] Z1 Tryz.func18 rfl (λ_=>rfl) (show Jf Pg GG [0,1,2,6,14] Tryz.f18 [.ptr zI 0 0,.i 1,.fn 21 [] [.ptr zR 0 0,.ptr zU 0 0,.ptr wa 0 0,.ptr wc 0 0,.ptr wl 0 0]] (Ext.of .normal (U5 [.ptr zI 0 0,.i 1,.fn 21 [] [.ptr zR 0 0,.ptr zU 0 0,.ptr wa 0 0,.ptr wc 0 0,.ptr wl 0 0]]) [(zI,⟨44,true,[(W0 (D9 p0) (W0 (D9 p1) [Rf wn p9,Rf wo p10,.i p2,.bool p3]))]⟩),(zR,⟨1,true,[[.i p4]]⟩),(zU,⟨1,true,[[.int .u8 p5]]⟩),(wa,⟨1,true,[[.bool p6]]⟩),(wc,⟨1,true,[[.int .u8 p7]]⟩),(wl,⟨1,true,[[.int .u8 p8]]⟩)] [Bt wn Z3 3 p9,Bt wo Z3 3 p10] (by rfl)) (eP p0 p1 p2 p3 p4 p5 p6 p7 p8 p9 p10) (λ(r:(List Q9)×(List Q9)×Q3×Bool×Int×Bool)=>.Qc []) (λ(r:(List Q9)×(List Q9)×Q3×Bool×Int×Bool)=>Ext.of .normal [] [(zI,⟨44,true,[(W0 (D9 p0) (W0 (D9 r.2.2.1) [Rf zV r.1,Rf wk r.2.1,.i p2,.bool r.2.2.2.1]))]⟩),(zR,⟨1,true,[[.i r.q.1]]⟩),(zU,⟨1,true,[[.int .u8 p5]]⟩),(wa,⟨1,true,[[.bool r.q.2]]⟩),(wc,⟨1,true,[[.int .u8 p7]]⟩),(wl,⟨1,true,[[.int .u8 p8]]⟩)] [Bt zV Z3 3 r.1,Bt wk Z3 3 r.2.1] (by rfl)) by unfold Jf;kernel_rfl)
def eR(p0 p1:Q3)(p2:Int)(p3:Bool)(p4 p5:Int)(p6:Bool)(p7 p8:Int)(p9 p10:List Q9):TT ((List Q9)×(List Q9)×Q3×Bool×Int×Bool):=.br 0 ((p9.length:Int)==0) (.gh 0 (.Qb wn zV) (.gh 0 (.Qb wo wk) (.done (p9,p10,p0,p3,p4,p6)))) (.Qa 1007 (bD 0 p9.length) (.row 1008 Z3 p9 0 true λx1624=>.Qa 2009 (decide (0<=(1:Int))&&decide ((1:Int)<=(p9.length:Int))) (.gh 5 (.Qb wn 502961) (.Xr 5 502961 Z3 p9 1 (λ_=>rfl) (.gh 5 (.len 502961 ((p9.drop 1).length) [(p9.length - 1)] (by simp)) (.call 3005 (s21 x1624 p4 p5 p6 p7 p8) [(zI,zR),(zR,zU),(zU,wa),(wa,wc),(wc,wl)] [] λr1625=>.call 3007 (s17 (Q7.mk 2 0 zg (Q9.mk r1625.2.1 r1625.2.2.1 r1625.2.2.2.1)) p0 p1 p2 p3 (p9.drop 1) p10) [(zI,zI),(zR,502961),(zU,wo)] [(zV,502962)] λr1626=>.gh 0 (.Qb 502961 zV) (.gh 0 (.Qb 502962 wk) (.done ((p9.drop 1),r1626.1,r1626.2.1,r1626.2.2,r1625.q,r1625.1)))))))))
def Hg(p0 p1:Q3)(p2:Int)(p3:Bool)(p4 p5:Int)(p6:Bool)(p7 p8:Int)(p9 p10:List Q9):Sp ((List Q9)×(List Q9)×Q3×Bool×Int×Bool):=.Zk 18 [zV,wk] Z1 Tryz.func18 rfl (λ_=>rfl) (show Jf Pg GG [0,1,2,6,14] Tryz.f18 [.ptr zI 0 0,.i 0,.fn 21 [] [.ptr zR 0 0,.ptr zU 0 0,.ptr wa 0 0,.ptr wc 0 0,.ptr wl 0 0]] (Ext.of .normal (U5 [.ptr zI 0 0,.i 0,.fn 21 [] [.ptr zR 0 0,.ptr zU 0 0,.ptr wa 0 0,.ptr wc 0 0,.ptr wl 0 0]]) [(zI,⟨44,true,[(W0 (D9 p0) (W0 (D9 p1) [Rf wn p9,Rf wo p10,.i p2,.bool p3]))]⟩),(zR,⟨1,true,[[.i p4]]⟩),(zU,⟨1,true,[[.int .u8 p5]]⟩),(wa,⟨1,true,[[.bool p6]]⟩),(wc,⟨1,true,[[.int .u8 p7]]⟩),(wl,⟨1,true,[[.int .u8 p8]]⟩)] [Bt wn Z3 3 p9,Bt wo Z3 3 p10] (by rfl)) (eR p0 p1 p2 p3 p4 p5 p6 p7 p8 p9 p10) (λ(r:(List Q9)×(List Q9)×Q3×Bool×Int×Bool)=>.Qc []) (λ(r:(List Q9)×(List Q9)×Q3×Bool×Int×Bool)=>Ext.of .normal [] [(zI,⟨44,true,[(W0 (D9 r.2.2.1) (W0 (D9 p1) [Rf zV r.1,Rf wk r.2.1,.i p2,.bool r.2.2.2.1]))]⟩),(zR,⟨1,true,[[.i r.q.1]]⟩),(zU,⟨1,true,[[.int .u8 p5]]⟩),(wa,⟨1,true,[[.bool r.q.2]]⟩),(wc,⟨1,true,[[.int .u8 p7]]⟩),(wl,⟨1,true,[[.int .u8 p8]]⟩)] [Bt zV Z3 3 r.1,Bt wk Z3 3 r.2.1] (by rfl)) by unfold Jf;kernel_rfl)
def g5(p0:QM)(p1 p2 p3:Int):TT (Bool):=.cl 1001 s14 λr1617=>.br 0 (!r1617) (.done false) (.call 3002 (jP p0) [] [(502772,502955),(502774,502956)] λr1618=>.tt (.call 8002 (Hn (Q3.mk r1618.2.1 r1618.2.2.1 r1618.2.2.2.1 r1618.q.1 r1618.q.2.1 r1618.q.2.2.1 r1618.q.2.2.2.1 r1618.q.q.1 r1618.q.q.2.1 r1618.q.q.2.2.1 r1618.q.q.2.2.2.1 (K4.mk r1618.q.q.q.1 r1618.q.q.q.2.1 r1618.q.q.q.2.2.1) r1618.q.q.q.2.2.2.1 r1618.q.q.q.q.1 (Y1.mk r1618.q.q.q.q.2.1 r1618.q.q.q.q.2.2.1 r1618.q.q.q.q.2.2.2.1) r1618.q.q.q.q.q.1) (Q3.mk r1618.q.q.q.q.q.2.1 r1618.q.q.q.q.q.2.2.1 r1618.q.q.q.q.q.2.2.2.1 r1618.q.q.q.q.q.q.1 r1618.q.q.q.q.q.q.2.1 r1618.q.q.q.q.q.q.2.2.1 r1618.q.q.q.q.q.q.2.2.2.1 r1618.q.q.q.q.q.q.q.1 r1618.q.q.q.q.q.q.q.2.1 r1618.q.q.q.q.q.q.q.2.2.1 r1618.q.q.q.q.q.q.q.2.2.2.1 (K4.mk r1618.q.q.q.q.q.q.q.q.1 r1618.q.q.q.q.q.q.q.q.2.1 r1618.q.q.q.q.q.q.q.q.2.2.1) r1618.q.q.q.q.q.q.q.q.2.2.2.1 r1618.q.q.q.q.q.q.q.q.q.1 (Y1.mk r1618.q.q.q.q.q.q.q.q.q.2.1 r1618.q.q.q.q.q.q.q.q.q.2.2.1 r1618.q.q.q.q.q.q.q.q.q.2.2.2.1) r1618.q.q.q.q.q.q.q.q.q.q.1) r1618.q.q.q.q.q.q.q.q.q.q.2.1 r1618.q.q.q.q.q.q.q.q.q.q.2.2 0 p1 false p2 p3 [] r1618.1) [(zI,9),(zR,10),(zU,5),(wa,11),(wc,6),(wl,7),(wn,502955),(wo,502956)] [(zV,503045),(wk,503046)] λr1619=>.call 9002 (Hg (Q3.mk r1618.2.1 r1618.2.2.1 r1618.2.2.2.1 r1618.q.1 r1618.q.2.1 r1618.q.2.2.1 r1618.q.2.2.2.1 r1618.q.q.1 r1618.q.q.2.1 r1618.q.q.2.2.1 r1618.q.q.2.2.2.1 (K4.mk r1618.q.q.q.1 r1618.q.q.q.2.1 r1618.q.q.q.2.2.1) r1618.q.q.q.2.2.2.1 r1618.q.q.q.q.1 (Y1.mk r1618.q.q.q.q.2.1 r1618.q.q.q.q.2.2.1 r1618.q.q.q.q.2.2.2.1) r1618.q.q.q.q.q.1) r1619.2.2.1 r1618.q.q.q.q.q.q.q.q.q.q.2.1 r1619.2.2.2.1 r1619.q.1 p1 r1619.q.2 p2 p3 r1619.1 r1619.2.1) [(zI,9),(zR,10),(zU,5),(wa,11),(wc,6),(wl,7),(wn,503045),(wo,503046)] [(zV,503047),(wk,503048)] λr1620=>.tt (.call 8002 (Hn r1620.2.2.1 r1619.2.2.1 r1618.q.q.q.q.q.q.q.q.q.q.2.1 r1620.2.2.2.1 r1620.q.1 p1 r1620.q.2 p2 p3 r1620.1 r1620.2.1) [(zI,9),(zR,10),(zU,5),(wa,11),(wc,6),(wl,7),(wn,503047),(wo,503048)] [(zV,503053),(wk,503054)] λr1621=>.call 9002 (Hg r1620.2.2.1 r1621.2.2.1 r1618.q.q.q.q.q.q.q.q.q.q.2.1 r1621.2.2.2.1 r1621.q.1 p1 r1621.q.2 p2 p3 r1621.1 r1621.2.1) [(zI,9),(zR,10),(zU,5),(wa,11),(wc,6),(wl,7),(wn,503053),(wo,503054)] [(zV,503055),(wk,503056)] λr1622=>.tt (.call 8002 (Hn r1622.2.2.1 r1621.2.2.1 r1618.q.q.q.q.q.q.q.q.q.q.2.1 r1622.2.2.2.1 r1622.q.1 p1 r1622.q.2 p2 p3 r1622.1 r1622.2.1) [(zI,9),(zR,10),(zU,5),(wa,11),(wc,6),(wl,7),(wn,503055),(wo,503056)] [(zV,503061),(wk,503062)] λr1623=>.call 9002 (Hg r1622.2.2.1 r1623.2.2.1 r1618.q.q.q.q.q.q.q.q.q.q.2.1 r1623.2.2.2.1 r1623.q.1 p1 r1623.q.2 p2 p3 r1623.1 r1623.2.1) [(zI,9),(zR,10),(zU,5),(wa,11),(wc,6),(wl,7),(wn,503061),(wo,503062)] [(zV,503063),(wk,503064)] λr1624=>.tt (.call 8002 (Hn r1624.2.2.1 r1623.2.2.1 r1618.q.q.q.q.q.q.q.q.q.q.2.1 r1624.2.2.2.1 r1624.q.1 p1 r1624.q.2 p2 p3 r1624.1 r1624.2.1) [(zI,9),(zR,10),(zU,5),(wa,11),(wc,6),(wl,7),(wn,503063),(wo,503064)] [(zV,503069),(wk,503070)] λr1625=>.call 9002 (Hg r1624.2.2.1 r1625.2.2.1 r1618.q.q.q.q.q.q.q.q.q.q.2.1 r1625.2.2.2.1 r1625.q.1 p1 r1625.q.2 p2 p3 r1625.1 r1625.2.1) [(zI,9),(zR,10),(zU,5),(wa,11),(wc,6),(wl,7),(wn,503069),(wo,503070)] [(zV,503071),(wk,503072)] λr1626=>.tt (.call 8002 (Hn r1626.2.2.1 r1625.2.2.1 r1618.q.q.q.q.q.q.q.q.q.q.2.1 r1626.2.2.2.1 r1626.q.1 p1 r1626.q.2 p2 p3 r1626.1 r1626.2.1) [(zI,9),(zR,10),(zU,5),(wa,11),(wc,6),(wl,7),(wn,503071),(wo,503072)] [(zV,503077),(wk,503078)] λr1627=>.call 9002 (Hg r1626.2.2.1 r1627.2.2.1 r1618.q.q.q.q.q.q.q.q.q.q.2.1 r1627.2.2.2.1 r1627.q.1 p1 r1627.q.2 p2 p3 r1627.1 r1627.2.1) [(zI,9),(zR,10),(zU,5),(wa,11),(wc,6),(wl,7),(wn,503077),(wo,503078)] [(zV,503079),(wk,503080)] λr1628=>.tt (.call 8002 (Hn r1628.2.2.1 r1627.2.2.1 r1618.q.q.q.q.q.q.q.q.q.q.2.1 r1628.2.2.2.1 r1628.q.1 p1 r1628.q.2 p2 p3 r1628.1 r1628.2.1) [(zI,9),(zR,10),(zU,5),(wa,11),(wc,6),(wl,7),(wn,503079),(wo,503080)] [(zV,503085),(wk,503086)] λr1629=>.call 9002 (Hg r1628.2.2.1 r1629.2.2.1 r1618.q.q.q.q.q.q.q.q.q.q.2.1 r1629.2.2.2.1 r1629.q.1 p1 r1629.q.2 p2 p3 r1629.1 r1629.2.1) [(zI,9),(zR,10),(zU,5),(wa,11),(wc,6),(wl,7),(wn,503085),(wo,503086)] [(zV,503087),(wk,503088)] λr1630=>.tt (.call 8002 (Hn r1630.2.2.1 r1629.2.2.1 r1618.q.q.q.q.q.q.q.q.q.q.2.1 r1630.2.2.2.1 r1630.q.1 p1 r1630.q.2 p2 p3 r1630.1 r1630.2.1) [(zI,9),(zR,10),(zU,5),(wa,11),(wc,6),(wl,7),(wn,503087),(wo,503088)] [(zV,503093),(wk,503094)] λr1631=>.call 9002 (Hg r1630.2.2.1 r1631.2.2.1 r1618.q.q.q.q.q.q.q.q.q.q.2.1 r1631.2.2.2.1 r1631.q.1 p1 r1631.q.2 p2 p3 r1631.1 r1631.2.1) [(zI,9),(zR,10),(zU,5),(wa,11),(wc,6),(wl,7),(wn,503093),(wo,503094)] [(zV,503095),(wk,503096)] λr1632=>.tt (.call 8002 (Hn r1632.2.2.1 r1631.2.2.1 r1618.q.q.q.q.q.q.q.q.q.q.2.1 r1632.2.2.2.1 r1632.q.1 p1 r1632.q.2 p2 p3 r1632.1 r1632.2.1) [(zI,9),(zR,10),(zU,5),(wa,11),(wc,6),(wl,7),(wn,503095),(wo,503096)] [(zV,503101),(wk,503102)] λr1633=>.call 9002 (Hg r1632.2.2.1 r1633.2.2.1 r1618.q.q.q.q.q.q.q.q.q.q.2.1 r1633.2.2.2.1 r1633.q.1 p1 r1633.q.2 p2 p3 r1633.1 r1633.2.1) [(zI,9),(zR,10),(zU,5),(wa,11),(wc,6),(wl,7),(wn,503101),(wo,503102)] [(zV,503103),(wk,503104)] λr1634=>.tt (.call 8002 (Hn r1634.2.2.1 r1633.2.2.1 r1618.q.q.q.q.q.q.q.q.q.q.2.1 r1634.2.2.2.1 r1634.q.1 p1 r1634.q.2 p2 p3 r1634.1 r1634.2.1) [(zI,9),(zR,10),(zU,5),(wa,11),(wc,6),(wl,7),(wn,503103),(wo,503104)] [(zV,503109),(wk,503110)] λr1635=>.call 9002 (Hg r1634.2.2.1 r1635.2.2.1 r1618.q.q.q.q.q.q.q.q.q.q.2.1 r1635.2.2.2.1 r1635.q.1 p1 r1635.q.2 p2 p3 r1635.1 r1635.2.1) [(zI,9),(zR,10),(zU,5),(wa,11),(wc,6),(wl,7),(wn,503109),(wo,503110)] [(zV,503111),(wk,503112)] λr1636=>.tt (.call 8002 (Hn r1636.2.2.1 r1635.2.2.1 r1618.q.q.q.q.q.q.q.q.q.q.2.1 r1636.2.2.2.1 r1636.q.1 p1 r1636.q.2 p2 p3 r1636.1 r1636.2.1) [(zI,9),(zR,10),(zU,5),(wa,11),(wc,6),(wl,7),(wn,503111),(wo,503112)] [(zV,503117),(wk,503118)] λr1637=>.call 9002 (Hg r1636.2.2.1 r1637.2.2.1 r1618.q.q.q.q.q.q.q.q.q.q.2.1 r1637.2.2.2.1 r1637.q.1 p1 r1637.q.2 p2 p3 r1637.1 r1637.2.1) [(zI,9),(zR,10),(zU,5),(wa,11),(wc,6),(wl,7),(wn,503117),(wo,503118)] [(zV,503119),(wk,503120)] λr1638=>.ff (.tt (.Zz 14 [48] (.br 14005 (r1638.2.2.1.fk==6) (.cl 14006 (s22 r1638.2.2.1) λr1639=>.oR 14010 (!r1639) (.an 14014 (r1638.2.2.1.fk != 6) (.done (!r1638.q.2)))) (.an 14014 (r1638.2.2.1.fk != 6) (.done (!r1638.q.2)))) zn λc1640=>.br 0 c1640 (.done false) (.tt (.gh 15 (.drop [14]) (.Zz 14 [48] (.br 14005 (r1637.2.2.1.fk==6) (.cl 14006 (s22 r1637.2.2.1) λr1641=>.oR 14010 (!r1641) (.an 14014 (r1637.2.2.1.fk != 6) (.done (!r1638.q.2)))) (.an 14014 (r1637.2.2.1.fk != 6) (.done (!r1638.q.2)))) zn λc1642=>.br 0 c1642 (.done false) (.ff (.done r1638.2.2.2.1))))))))))))))))))
theorem k5(p0:QM)(p1 p2 p3:Int):iB Tryz.prog GG [0,1,2,3,4,5,6,7,8,9,10,11,12,14,16,20,21,28,29,30,48] Tryz.f5 [.agg [.int .u8 p0.fH.a0,.int .u8 p0.fH.a1,.int .u16 p0.fF.a0,.int .u16 p0.fF.a1,.int .u16 p0.ga,.int .u8 p0.gc.a0,.int .u8 p0.gc.a1],.int .u8 p1,.int .u8 p2,.int .u8 p3] (g5 p0 p1 p2 p3) (λr=>.bool r):=by unfold iB;kernel_rfl
def s5(p0:QM)(p1 p2 p3:Int):Sp (Bool):=.ofFn 5 Z1 Tryz.func5 (k5 p0 p1 p2 p3)
def rV(s:Q3):ze:=bif s.fp==2 then s.fj.fh else s.fh
def cV(s:Q3):ze:=bif s.fp==2 then s.fh else s.fj.fh
def tB(m T b:ze):ze:=K3 m Yc (T++b)++b
def P5(s:Q3):Prop:=∃T:ze,T.size=168+(cV s).size/\s.fq=T++Zx 4 (tB s.fC T (rV s))
def P6(s:Q3):Prop:=∃T:ze,T.size=168+(cV s).size/\s.fq=T++Zx 4 (tB s.fC T (rV s))++Zx 5 (K3 s.fC Jo (T++Zx 4 (tB s.fC T (rV s))))
structure JJ(s:Q3):Prop where
 v:QZ s=true
 p5:s.fp=1->s.fk=5->P5 s
 p6:s.fk=6->P6 s
theorem JJ.now{s:Q3}(h:JJ s){n:Int}(hn:T5 n=true):JJ { s with fm:=n }:=⟨Cq h.v hn,h.p5,h.p6⟩
theorem Io{s:Q3}(v:QZ s=true)(h5:s.fk≠5)(h6:s.fk≠6):JJ s:=⟨v,λ_ e=>absurd e h5,λe=>absurd e h6⟩
theorem Qee{s:Q3}(h:JJ s)(v:Q7):(∀r,Kx s v=.inl r->JJ r.1)/\∀e,Kx s v=.inr (true,e)->JJ (JU s e):=by
 have k:=dA h.v v;obtain⟨h1,h2⟩:=R0 h.v;have f:=(M0 s).1 h1;refine⟨λr hr=>?_,λe he=>Io (k.2 e he) (show (7:Int)≠5 by decide) (show (7:Int)≠6 by decide)⟩;have kv:=k.1 r hr;unfold Kx at hr;by_cases c1:v.fw=1
 ·rw[if_pos c1] at hr;unfold HR at hr;cases hc:(s.fp==1&&s.fk==1) with
  | false=>grind
  | true=>
   rw[hc] at hr;obtain rfl:=Sum.inl.inj hr;exact Io kv (show (2:Int)≠5 by decide) (show (2:Int)≠6 by decide)
 rw[if_neg c1] at hr;by_cases c2:v.fw=2
 ·rw[if_pos c2] at hr;unfold U9 at hr;by_cases d1:s.fp=1/\(s.fk=2\/s.fk=3)/\v.fM.fw=2
  ·rw[if_pos d1] at hr;unfold S8 at hr;split at hr
   ·cases hr
   split at hr
   ·cases hr
   obtain rfl:=Sum.inl.inj hr;exact Io kv (show (3:Int)≠5 by decide) (show (3:Int)≠6 by decide)
  rw[if_neg d1] at hr;by_cases d2:s.fp=1/\s.fk=3/\v.fM.fw=3
  ·rw[if_pos d2] at hr;generalize v.fM.ft=b at *;unfold O1 at hr;split at hr
   ·cases hr
   rename_i q1;split at hr
   ·cases hr
   split at hr
   ·cases hr
   split at hr
   ·cases hr
   obtain rfl:=Sum.inl.inj hr;obtain⟨g4,g5⟩:=(UA h2).2.2.1 ⟨d2.1,d2.2.1⟩;refine⟨kv,λ_ _=>⟨Jl s b,?_,?_⟩,λe=>absurd e (show ¬(5:Int)=6 by decide)⟩
   ·show (Jl s b).size=168+(bif s.fp==2 then s.fh else b.extract 64 b.size).size;grind [ByteArray.size_append,K0,ByteArray.size_extract,Jl]
   ·show Jl s b++Zx 4 (HH s b)=Jl s b++Zx 4 (tB (Xs s b) (Jl s b) (bif s.fp==2 then b.extract 64 b.size else s.fh));rw[d2.1];rfl
  rw[if_neg d2] at hr;by_cases d3:s.fp=1/\s.fk=5/\v.fM.fw=5
  ·rw[if_pos d3] at hr;generalize v.fM.ft=b at *;unfold Hc at hr;split at hr
   ·cases hr
   split at hr
   ·cases hr
   rename_i q2;obtain rfl:=Sum.inl.inj hr;have q2:b=K3 s.fC Jo s.fq:=by simpa using q2
   obtain⟨T,t1,t2⟩:=h.p5 d3.1 d3.2.1;refine⟨kv,(by grind),λ_=>⟨T,t1,?_⟩⟩;grind [Zx,tB,rV,K3,Jo]
  rw[if_neg d3] at hr;by_cases d4:s.fp=2/\s.fk=1/\v.fM.fw=1
  ·rw[if_pos d4] at hr;unfold G1 at hr;split at hr
   ·cases hr
   split at hr
   ·split at hr
    ·cases hr
    obtain rfl:=Sum.inl.inj hr;exact Io kv (show (1:Int)≠5 by decide) (show (1:Int)≠6 by decide)
   ·obtain rfl:=Sum.inl.inj hr;exact Io kv (show (4:Int)≠5 by decide) (show (4:Int)≠6 by decide)
  rw[if_neg d4] at hr;by_cases d5:s.fp=2/\s.fk=4/\v.fM.fw=4
  ·rw[if_pos d5] at hr;generalize v.fM.ft=b at *;unfold R6 at hr;split at hr
   ·cases hr
   rename_i q1;split at hr
   ·cases hr
   split at hr
   ·cases hr
   split at hr
   ·cases hr
   split at hr
   ·cases hr
   rename_i q5;obtain rfl:=Sum.inl.inj hr;have q5:b.extract 0 32=K3 (Um s b) Yc (s.fq++b.extract 32 b.size):=by simpa using q5
   obtain⟨g1,g2,g3,g4⟩:=(UA h2).q.2 ⟨d5.1,d5.2.1⟩;refine⟨kv,λe=>absurd (d5.1.symm.trans e) (by decide),λ_=>⟨s.fq,?_,?_⟩⟩
   ·show s.fq.size=168+(bif s.fp==2 then s.fh else b.extract 32 b.size).size;grind
   ·have eb:b=tB (Um s b) s.fq (b.extract 32 b.size):=by
     grind [ByteArray.extract_append_extract,Nat.min_eq_left,Nat.max_eq_right,ByteArray.extract_zero_size,tB]
    have et:tB (Um s b) s.fq (bif s.fp==2 then b.extract 32 b.size else s.fh)=b:=by grind
    show Ml s b++Zx 5 (Wh s b)=s.fq++Zx 4 (tB (Um s b) s.fq (bif s.fp==2 then b.extract 32 b.size else s.fh))++Zx 5 (K3 (Um s b) Jo (s.fq++Zx 4 (tB (Um s b) s.fq (bif s.fp==2 then b.extract 32 b.size else s.fh))));rw[et];rfl
  grind
 rw[if_neg c2] at hr;by_cases c3:v.fw=3
 ·rw[if_pos c3] at hr;unfold HI at hr;cases hd:!(Ub s.fD s.fm).1 with
  | true=>grind
  | false=>
   rw[hd] at hr;cases ha:(GD s.fD s.fm).2 != 0 with
   | true=>grind
   | false=>rw[ha] at hr;obtain rfl:=Sum.inl.inj hr;exact⟨kv,h.p5,h.p6⟩
 grind
theorem oD{s:Q3}(h:JJ s){v:Q7}(hz:(U7 s v).2.2=0):JJ (U7 s v).1:=by
 have hv:=YC hz;unfold U7 at *;rw[h.v] at *;cases he:Bi s v with
 | false=>grind
 | true=>
  rw[he] at hz hv;have k:=Qee (h.now (dO ((M0 s).1 (R0 h.v).1).nw he)) v;have z:=dI { s with fm:=v.fm } v;simp only[cond_true] at hz hv ⊢;match hq:Kx { s with fm:=v.fm } v with
  | .inl r=>exact k.1 r hq
  | .inr (true,e)=>exact k.2 e hq
  | .inr (false,e)=>
   rw[hq] at hz;have:e=0:=hz;rw[this] at hq;exact absurd hq z
theorem Cf(m side s:ze)(hm:m.size<=4096)(hside:side.size<=4096)(hs:s.size<=4096):Qy (s49 m side s) (λr=>r=K3 m side s):=by
 unfold s49;refine Qy.fn ?_;unfold g49;refine Ok.c (AR m zg side hm (by decide) hside) λr hr=>Ok.c (FX s hs) λr2 hr2=>?_;subst hr;subst hr2;refine Ok.c (SX _ _ (by rw[Ut];decide) (by rw[WO];decide)) λr hr=>Ok.d ?_;rw[hr];rfl
theorem Tu(k:Int)(b:ze):∃H:ze,H.size=4/\Zx k b=H++b:=⟨_,E1 _,rfl⟩
theorem Vg(s:Q3)(h:JJ s)(h6:s.fk=6):Qy (s22 s) (λr=>r=true):=by
 have vf:=I7 h.v;obtain⟨T,t1,t2⟩:=h.p6 h6;have e1:(bif s.fp==2 then (s.fj.fh,s.fh) else (s.fh,s.fj.fh))=(rV s,cV s):=by
  grind [rV,cV]
 have zc:(rV s).size<=86:=by
  unfold rV;cases s.fp==2
  ·exact vf.bz
  ·exact vf.pb
 have zs:(cV s).size<=86:=by
  unfold cV;cases s.fp==2
  ·exact vf.pb
  ·exact vf.bz
 have zm:=vf.ma;have ztd:=vf.td;generalize rV s=cb at *;generalize cV s=sb at *;obtain⟨H4,y4,x4⟩:=Tu 4 (tB s.fC T cb);obtain⟨H5,y5,x5⟩:=Tu 5 (K3 s.fC Jo (T++Zx 4 (tB s.fC T cb)));have zC:(K3 s.fC Yc (T++cb)).size=32:=M9 _ _ _;have zD:(K3 s.fC Jo (T++Zx 4 (tB s.fC T cb))).size=32:=M9 _ _ _;have okC:=Cf s.fC Yc (T++cb) (by omega) (by decide) (by grind);have z4:(T++Zx 4 (tB s.fC T cb)).size=T.size+36+cb.size:=by
  grind [ByteArray.size_append,K0,tB]
 have okD:=Cf s.fC Jo (T++Zx 4 (tB s.fC T cb)) (by omega) (by decide) (by omega);have zt:s.fq.size=T.size+cb.size+72:=by grind
 have c0:s.fq.extract 0 T.size=T:=by rw[t2,ByteArray.append_assoc];exact Gx rfl
 have c1:s.fq.extract 0 (T.size+36+cb.size)=T++Zx 4 (tB s.fC T cb):=by grind [Gx]
 have c2:s.fq.extract (T.size+4) (T.size+36)=K3 s.fC Yc (T++cb):=by
  rw[t2,x4];unfold tB;rw[show T++(H4++(K3 s.fC Yc (T++cb)++cb))++Zx 5 (K3 s.fC Jo (T++(H4++(K3 s.fC Yc (T++cb)++cb))))=(T++H4)++K3 s.fC Yc (T++cb)++(cb++Zx 5 (K3 s.fC Jo (T++(H4++(K3 s.fC Yc (T++cb)++cb))))) by simp only[ByteArray.append_assoc]];grind [rI,ByteArray.size_append]
 have c3:s.fq.extract (T.size+36) (T.size+36+cb.size)=cb:=by
  rw[t2,x4];unfold tB;rw[show T++(H4++(K3 s.fC Yc (T++cb)++cb))++Zx 5 (K3 s.fC Jo (T++(H4++(K3 s.fC Yc (T++cb)++cb))))=(T++H4++K3 s.fC Yc (T++cb))++cb++Zx 5 (K3 s.fC Jo (T++(H4++(K3 s.fC Yc (T++cb)++cb)))) by simp only[ByteArray.append_assoc]];grind [rI,ByteArray.size_append]
 have c4:s.fq.extract (T.size+cb.size+40) s.fq.size=K3 s.fC Jo (T++Zx 4 (tB s.fC T cb)):=by
  rw[zt,t2,x5,<-ByteArray.append_assoc];grind [dX,ByteArray.size_append]
 have w1:Q0 ((168:Int)+(sb.size:Int))=((T.size:Nat):Int):=by grind [Z2]
 have w2:Q0 (((T.size:Nat):Int)+36)=((T.size+36:Nat):Int):=by grind [Z2]
 have w3:Q0 (((T.size:Nat):Int)+4)=((T.size+4:Nat):Int):=by grind [Z2]
 have w4:Q0 (((T.size+36:Nat):Int)+(cb.size:Int))=((T.size+36+cb.size:Nat):Int):=by grind [Z2]
 have w5:Q0 ((s.fq.size:Int) - 36)=((T.size+36+cb.size:Nat):Int):=by grind
 have w6:Q0 (((T.size+36+cb.size:Nat):Int)+4)=((T.size+cb.size+40:Nat):Int):=by grind [Z2]
 unfold s22;refine Qy.fn ?_;unfold g22;refine Ok.b (R:=λe=>e=(cb,sb)) (by grind [Ok.e,Ok.d]) λe he=>?_;subst he;simp only[w1,w2,w3,w4,w5,w6,zW,c0,c1,c2,c3,c4];refine Ok.f (by simp) (Ok.n (R:=λc=>c=true) ?_ λc hc=>Ok.d hc);refine Ok.k (by first|(simp;done)|(simp;omega)) (Ok.k (by first|(simp;done)|(simp;omega)) (Ok.k (by grind) (Ok.c okC λr hr=>Ok.t (by rw[hr];simp) (Ok.k (by grind) (Ok.k (by grind) (Ok.c okD (by grind [Ok.t,Ok.k,Ok.d])))))))
def bL(q:List Q9):Prop:=∀n,n∈q->n.ft.size<=10000
theorem sO{s:Q3}(h:JJ s)(now:Int)(q:List Q9)(k:Int)(n:Q9)(hq:bL q):JJ (XD s now true q k n).2.1/\(XD s now true q k n).2.2=true/\(XD s now true q k n).1.length<=q.length+1/\bL (XD s now true q k n).1:=by
 unfold XD;have h1:=@oD s h ⟨k,now,G4,n⟩;have h2:=Nf s ⟨k,now,G4,n⟩;have h3:=(oE s ⟨k,now,G4,n⟩).2.2;generalize U7 s ⟨k,now,G4,n⟩=S at *;cases hz:S.2.2 != 0 with
 | true=>grind
 | false=>
  refine⟨h1 (by simpa using hz),rfl,?_,λx hx=>?_⟩
  ·grind
  ·rcases ww.1 hx with hx|hx
   ·exact hq x hx
   grind
theorem Co(n:Q9)(st wh:Int)(ch:Bool)(at_ oc:Int)(hb:n.ft.size<=10000)(hst:0<=st/\st<=1000)(ha:0<=at_/\at_ < 256) :
  Qy (s21 n st wh ch at_ oc) (λr=>r.q=st+1/\((st≠Int.tmod (Q0 wh) 8/\r=(ch,n.fw,n.fV,n.ft,st+1))\/(st=Int.tmod (Q0 wh) 8/\r.1=true))):=by
 show Ok (g21 n st wh ch at_ oc) _;unfold g21;have w1:Q0 (st+1)=st+1:=Z2 (by omega) (by omega);have w2:Q0 (st+1 - 1)=st:=by grind [Z2]
 rw[w1,w2];refine Ok.e (λh=>Ok.d (by grind)) λh=>Ok.c (gK _ n (by omega) ha) λr _=>Ok.d (by grind)
theorem Qhv(c s:Q3)(now st wh:Int)(ch:Bool)(at_ oc:Int)(q0 q1:List Q9)(hs:QZ s=true)(l0:q0.length<=100000)(z1:bL q1)(hst:0<=st/\st<=1000)(ha:0<=at_/\at_ < 256) :
  Qy (Hn c s now true st wh ch at_ oc q0 q1) (λr=>(q1=[]/\r=(q0,q1,s,true,st,ch))\/∃n q n' ch',q1=n :: q/\r=((XD s now true q0 2 n').1,q,(XD s now true q0 2 n').2.1,(XD s now true q0 2 n').2.2,st+1,ch')/\((st≠Int.tmod (Q0 wh) 8/\n'=n/\ch'=ch)\/(st=Int.tmod (Q0 wh) 8/\ch'=true))):=by
 show Ok (eP c s now true st wh ch at_ oc q0 q1) _;unfold eP;cases q1 with
 | nil=>exact Ok.t rfl (Ok.g (Ok.g (Ok.d (.inl ⟨rfl,rfl⟩))))
 | cons n q=>
  refine Ok.f (by grind) (Ok.k (by simp<;>omega) (Ok.r rfl rfl (Ok.k (by simp<;>omega) (Ok.g (Ok.Xr (by simp) (Ok.g ?_))))));refine Ok.c (Co n st wh ch at_ oc (z1 n (List.mem_cons_self ..)) hst ha) λr hr=>?_;refine Ok.c (NT _ c s now true q0 _ hs l0) λr2 hr2=>Ok.g (Ok.g (Ok.d (.inr ⟨n,q,⟨r.2.1,r.2.2.1,r.2.2.2.1⟩,r.1,rfl,?_,?_⟩)))
  ·grind
  ·rcases hr.2 with⟨h1,h2⟩|⟨h1,h2⟩
   ·simp_all
   grind
theorem Qw0(c s:Q3)(now st wh:Int)(ch:Bool)(at_ oc:Int)(q0 q1:List Q9)(hc:QZ c=true)(l1:q1.length<=100000)(z0:bL q0)(hst:0<=st/\st<=1000)(ha:0<=at_/\at_ < 256) :
  Qy (Hg c s now true st wh ch at_ oc q0 q1) (λr=>(q0=[]/\r=(q0,q1,c,true,st,ch))\/∃n q n' ch',q0=n :: q/\r=(q,(XD c now true q1 2 n').1,(XD c now true q1 2 n').2.1,(XD c now true q1 2 n').2.2,st+1,ch')/\((st≠Int.tmod (Q0 wh) 8/\n'=n/\ch'=ch)\/(st=Int.tmod (Q0 wh) 8/\ch'=true))):=by
 show Ok (eR c s now true st wh ch at_ oc q0 q1) _;unfold eR;cases q0 with
 | nil=>exact Ok.t rfl (Ok.g (Ok.g (Ok.d (.inl ⟨rfl,rfl⟩))))
 | cons n q=>
  refine Ok.f (by grind) (Ok.k (by simp<;>omega) (Ok.r rfl rfl (Ok.k (by simp<;>omega) (Ok.g (Ok.Xr (by simp) (Ok.g ?_))))));refine Ok.c (Co n st wh ch at_ oc (z0 n (List.mem_cons_self ..)) hst ha) λr hr=>?_;refine Ok.c (AG _ c s now true _ q1 hc l1) λr2 hr2=>Ok.g (Ok.g (Ok.d (.inr ⟨n,q,⟨r.2.1,r.2.2.1,r.2.2.2.1⟩,r.1,rfl,?_,?_⟩)))
  ·grind
  ·rcases hr.2 with⟨h1,h2⟩|⟨h1,h2⟩
   ·simp_all
   grind
abbrev Q4:=Q3×Q3×List Q9×List Q9
def iR(p:Ends):Nat->Q4
 | 0=>(KF p,Oy p,[],[⟨1,0,eH p⟩])
 | 1=>(KF p,OH p,[⟨2,0,eK p⟩],[])
 | 2=>(RJ p,OH p,[],[⟨1,1,eH p++eK p⟩])
 | 3=>(RJ p,RY p,[⟨3,1,eA p⟩],[])
 | 4=>(CC p,RY p,[],[⟨4,2,eB p⟩])
 | 5=>(CC p,sC p,[⟨5,2,eD p⟩],[])
 | _+6=>(eC4 p,sC p,[],[])
theorem me{s t:Q3}{p:Ends}{k q:Int}{b:ze}{l:List Q9}(h:U7 s (VL p k q b)=(t,l,0))(q2:List Q9):XD s p.n true q2 2 ⟨k,q,b⟩=(q2++l,t,true):=congrArg Prod.snd (Qzn h true [] q2)
structure Good(p:Ends):Prop where
 f:R3 p
 a:aC p=0
 b:aS p=0
theorem Qjr{p:Ends}(h:Good p):∀{k:Nat} {c s:Q3} {q0 q:List Q9} {n:Q9},k % 2=0->(c,s,q0,n :: q)=iR p k->k < 6/\(c,(XD s p.n true q0 2 n).2.1,(XD s p.n true q0 2 n).1,q)=iR p (k+1)
 | 0,c,s,q0,q,n,_,d=>by
  have d:(c,s,q0,n :: q)=(KF p,Oy p,[],[⟨1,0,eH p⟩]):=d;simp only[zT,List.cons.injEq] at d;obtain⟨rfl,rfl,rfl,rfl,rfl⟩:=d;rw[me (lD h.f)];exact⟨by decide,rfl⟩
 | 2,c,s,q0,q,n,_,d=>by
  have d:(c,s,q0,n :: q)=(RJ p,OH p,[],[⟨1,1,eH p++eK p⟩]):=d;simp only[zT,List.cons.injEq] at d;obtain⟨rfl,rfl,rfl,rfl,rfl⟩:=d;rw[me (lM h.f)];exact⟨by decide,rfl⟩
 | 4,c,s,q0,q,n,_,d=>by
  have d:(c,s,q0,n :: q)=(CC p,RY p,[],[⟨4,2,eB p⟩]):=d;simp only[zT,List.cons.injEq] at d;obtain⟨rfl,rfl,rfl,rfl,rfl⟩:=d;have e6:=Qhm h.f;rw[if_neg (λx=>x h.b)] at e6;rw[me e6];exact⟨by decide,rfl⟩
 | k+6,c,s,q0,q,n,_,d=>by
  have d:(c,s,q0,n :: q)=(eC4 p,sC p,[],[]):=d;simp at d
 | 1,_,_,_,_,_,e,_=>absurd e (by decide)
 | 3,_,_,_,_,_,e,_=>absurd e (by decide)
 | 5,_,_,_,_,_,e,_=>absurd e (by decide)
theorem rB{p:Ends}:∀{k:Nat} {c s:Q3} {q0:List Q9},k % 2=0->(c,s,q0,([]:List Q9))=iR p k->6<=k/\(c,s,q0,([]:List Q9))=iR p (k+1)
 | 0,c,s,q0,_,d=>by
  have d:(c,s,q0,([]:List Q9))=(KF p,Oy p,[],[⟨1,0,eH p⟩]):=d;simp at d
 | 2,c,s,q0,_,d=>by
  have d:(c,s,q0,([]:List Q9))=(RJ p,OH p,[],[⟨1,1,eH p++eK p⟩]):=d;simp at d
 | 4,c,s,q0,_,d=>by
  have d:(c,s,q0,([]:List Q9))=(CC p,RY p,[],[⟨4,2,eB p⟩]):=d;simp at d
 | k+6,c,s,q0,_,d=>⟨by omega,d⟩
 | 1,_,_,_,e,_=>absurd e (by decide)
 | 3,_,_,_,e,_=>absurd e (by decide)
 | 5,_,_,_,e,_=>absurd e (by decide)
theorem Qjp{p:Ends}(h:Good p):∀{k:Nat} {c s:Q3} {q1 q:List Q9} {n:Q9},k % 2=1->(c,s,n :: q,q1)=iR p k->k < 6/\((XD c p.n true q1 2 n).2.1,s,q,(XD c p.n true q1 2 n).1)=iR p (k+1)
 | 1,c,s,q1,q,n,_,d=>by
  have d:(c,s,n :: q,q1)=(KF p,OH p,[⟨2,0,eK p⟩],[]):=d;simp only[zT,List.cons.injEq] at d;obtain⟨rfl,rfl,⟨rfl,rfl⟩,rfl⟩:=d;rw[me (lE h.f)];exact⟨by decide,rfl⟩
 | 3,c,s,q1,q,n,_,d=>by
  have d:(c,s,n :: q,q1)=(RJ p,RY p,[⟨3,1,eA p⟩],[]):=d;simp only[zT,List.cons.injEq] at d;obtain⟨rfl,rfl,⟨rfl,rfl⟩,rfl⟩:=d;have e5:=Qqh h.f;rw[if_neg (λx=>x h.a)] at e5;rw[me e5];exact⟨by decide,rfl⟩
 | 5,c,s,q1,q,n,_,d=>by
  have d:(c,s,n :: q,q1)=(CC p,sC p,[⟨5,2,eD p⟩],[]):=d;simp only[zT,List.cons.injEq] at d;obtain⟨rfl,rfl,⟨rfl,rfl⟩,rfl⟩:=d;rw[me (Qhk h.f h.a)];exact⟨by decide,rfl⟩
 | k+6,c,s,q1,q,n,_,d=>by
  have d:(c,s,n :: q,q1)=(eC4 p,sC p,[],[]):=d;simp at d
 | 0,_,_,_,_,_,e,_=>absurd e (by decide)
 | 2,_,_,_,_,_,e,_=>absurd e (by decide)
 | 4,_,_,_,_,_,e,_=>absurd e (by decide)
theorem rC{p:Ends}:∀{k:Nat} {c s:Q3} {q1:List Q9},k % 2=1->(c,s,([]:List Q9),q1)=iR p k->6<=k/\(c,s,([]:List Q9),q1)=iR p (k+1)
 | 1,c,s,q1,_,d=>by
  have d:(c,s,([]:List Q9),q1)=(KF p,OH p,[⟨2,0,eK p⟩],[]):=d;simp at d
 | 3,c,s,q1,_,d=>by
  have d:(c,s,([]:List Q9),q1)=(RJ p,RY p,[⟨3,1,eA p⟩],[]):=d;simp at d
 | 5,c,s,q1,_,d=>by
  have d:(c,s,([]:List Q9),q1)=(CC p,sC p,[⟨5,2,eD p⟩],[]):=d;simp at d
 | k+6,c,s,q1,_,d=>⟨by omega,d⟩
 | 0,_,_,_,e,_=>absurd e (by decide)
 | 2,_,_,_,e,_=>absurd e (by decide)
 | 4,_,_,_,e,_=>absurd e (by decide)
structure IV(p:Ends)(k:Nat)(c s:Q3)(v:Bool)(st:Int)(ch:Bool)(q0 q1:List Q9):Prop where
 iv:v=true
 jc:JJ c
 js:JJ s
 l0:q0.length<=k+1
 l1:q1.length<=k+1
 z0:bL q0
 z1:bL q1
 is:0<=st/\st<=k
 d:ch=true\/(c,s,q0,q1)=iR p k
theorem yS{n:Q9}{q:List Q9}(h:bL (n :: q)):bL q:=λx hx=>h x (List.mem_cons_of_mem _ hx)
theorem KE{p:Ends}(h:Good p){k:Nat}(hk:k % 2=0)(hk2:k<=100){c s:Q3}{v ch:Bool}{st wh at_ oc:Int}{q0 q1:List Q9}(ha:0<=at_/\at_ < 256)(i:IV p k c s v st ch q0 q1) :
  Qy (Hn c s p.n v st wh ch at_ oc q0 q1) (λr=>IV p (k+1) c r.2.2.1 r.2.2.2.1 r.q.1 r.q.2 r.1 r.2.1):=by
 obtain⟨rfl,jc,js,l0,l1,z0,z1,hst,d⟩:=i;refine(Qhv c s p.n st wh ch at_ oc q0 q1 js.v (by omega) z1 ⟨hst.1,by omega⟩ ha).mono λr hr=>?_;rcases hr with⟨e,rfl⟩|⟨n,q,n',ch',e,rfl,hc⟩
 ·refine⟨rfl,jc,js,by grind,by grind,z0,z1,(by grind),d.imp id λd=>?_⟩;subst e;exact(rB hk d).2
 ·subst e;obtain⟨m1,m2,m3,m4⟩:=sO js p.n q0 2 n' z0;refine⟨m2,jc,m1,by grind,by grind,m4,yS z1,(by grind),?_⟩;rcases hc with⟨_,h2,h3⟩|⟨_,h3⟩
  ·subst h2;subst h3;exact d.imp id λd=>(Qjr h hk d).2
  grind
theorem KD{p:Ends}(h:Good p){k:Nat}(hk:k % 2=1)(hk2:k<=100){c s:Q3}{v ch:Bool}{st wh at_ oc:Int}{q0 q1:List Q9}(ha:0<=at_/\at_ < 256)(i:IV p k c s v st ch q0 q1) :
  Qy (Hg c s p.n v st wh ch at_ oc q0 q1) (λr=>IV p (k+1) r.2.2.1 s r.2.2.2.1 r.q.1 r.q.2 r.1 r.2.1):=by
 obtain⟨rfl,jc,js,l0,l1,z0,z1,hst,d⟩:=i;refine(Qw0 c s p.n st wh ch at_ oc q0 q1 jc.v (by omega) z0 ⟨hst.1,by omega⟩ ha).mono λr hr=>?_;rcases hr with⟨e,rfl⟩|⟨n,q,n',ch',e,rfl,hc⟩
 ·refine⟨rfl,jc,js,by grind,by grind,z0,z1,(by grind),d.imp id λd=>?_⟩;subst e;exact(rC hk d).2
 ·subst e;obtain⟨m1,m2,m3,m4⟩:=sO jc p.n q1 2 n' z1;refine⟨m2,m1,js,by grind,by grind,yS z0,m4,(by grind),?_⟩;rcases hc with⟨_,h2,h3⟩|⟨_,h3⟩
  ·subst h2;subst h3;exact d.imp id λd=>(Qjp h hk d).2
  grind
theorem sM{s:Q3}{ch:Bool}(j:JJ s)(h:ch=true\/s.fk=6){a1 a2 a3 a4 a5:Nat}{L1 L2:List (Nat×Nat)} :
  Ok (.br a1 (s.fk==6) (.call a2 (s22 s) L1 L2 λr=>.br a3 (!r) (.done true) (.br a4 (s.fk != 6) (.done (!ch)) (.done false))) (.br a5 (s.fk != 6) (.done (!ch)) (.done false)):TT Bool) (λc=>c=false):=by
 by_cases h6:s.fk=6
 ·exact Ok.t (by simp[h6]) (Ok.c (Vg s j h6) λr hr=>Ok.f (by rw[hr];rfl) (Ok.f (by simp[h6]) (Ok.d rfl)))
 grind [Ok.f,Ok.t,Ok.d]
theorem Qqt(d:QM)(wh at_ oc:Int)(hd:Xy d)(ha:0<=at_/\at_ < 256):Qy (s5 d wh at_ oc) (λr=>r=true):=by
 obtain⟨hb,a0,b0⟩:=aQ hd;have h:=Di _ hb;unfold s5;refine Qy.fn ?_;unfold g5;refine Ok.c lS λr hr=>?_;subst hr;refine Ok.f rfl (Ok.c (mZ d hd) λr hr=>?_);clear hb;generalize X2 (IS d)=p at *;subst hr;have G:Good p:=⟨h,a0,b0⟩;have i:IV p 0 (KF p) (Oy p) true 0 false [] [⟨1,0,eH p⟩]:=⟨rfl,Io h.c1 (show (2:Int)≠5 by decide) (show (2:Int)≠6 by decide),Io h.s (show (1:Int)≠5 by decide) (show (1:Int)≠6 by decide),Nat.zero_le _,zQ 1,λx hx=>by simp at hx,λx hx=>by rw[wG] at hx;subst hx;show (eH p).size<=_;rw[h.zH];decide,⟨by decide,by decide⟩,.inr rfl⟩;refine Ok.tt (Ok.c (KE G rfl (by decide) ha i) λ_ i=>Ok.c (KD G rfl (by decide) ha i) λ_ i=>?_);refine Ok.tt (Ok.c (KE G rfl (by decide) ha i) λ_ i=>Ok.c (KD G rfl (by decide) ha i) λ_ i=>?_);refine Ok.tt (Ok.c (KE G rfl (by decide) ha i) λ_ i=>Ok.c (KD G rfl (by decide) ha i) λ_ i=>?_);refine Ok.tt (Ok.c (KE G rfl (by decide) ha i) λ_ i=>Ok.c (KD G rfl (by decide) ha i) λ_ i=>?_);refine Ok.tt (Ok.c (KE G rfl (by decide) ha i) λ_ i=>Ok.c (KD G rfl (by decide) ha i) λ_ i=>?_);refine Ok.tt (Ok.c (KE G rfl (by decide) ha i) λ_ i=>Ok.c (KD G rfl (by decide) ha i) λ_ i=>?_);refine Ok.tt (Ok.c (KE G rfl (by decide) ha i) λ_ i=>Ok.c (KD G rfl (by decide) ha i) λ_ i=>?_);refine Ok.tt (Ok.c (KE G rfl (by decide) ha i) λ_ i=>Ok.c (KD G rfl (by decide) ha i) λ_ i=>?_);refine Ok.tt (Ok.c (KE G rfl (by decide) ha i) λ_ i=>Ok.c (KD G rfl (by decide) ha i) λ_ i=>?_);refine Ok.tt (Ok.c (KE G rfl (by decide) ha i) λ_ i=>Ok.c (KD G rfl (by decide) ha i) λ_ i=>?_);have e:∀{c s:Q3} {q0 q1:List Q9},(c,s,q0,q1)=iR p 20->c.fk=6/\s.fk=6:=λ{c s q0 q1} x=>by
  have x:(c,s,q0,q1)=(eC4 p,sC p,[],[]):=x;simp only[zT] at x;obtain⟨rfl,rfl,-,-⟩:=x;exact⟨rfl,rfl⟩
 refine Ok.ff (Ok.tt (Ok.n (sM i.jc (i.d.imp id λx=>(e x).1)) λc hc=>Ok.f hc (Ok.tt (Ok.g (Ok.n (sM i.js (i.d.imp id λx=>(e x).2)) λc hc=>Ok.f hc (Ok.ff (Ok.d i.iv)))))))
end Go.Proofs.YtjdieimefebnfaaGreatDoor
namespace Go.Proofs.YtjdieimefebnfaaGreatDoor
open Go Go.EV Go.ChangeShapes
theorem own:ownKnob Tryz.prog.godebug=none:=by kernel_rfl
abbrev Ek:List (String×DataW Unit):=[("unicode/utf8.acceptRanges",Rows.laid_unicode_utf8_acceptRanges),("unicode/utf8.first",Rows.laid_unicode_utf8_first)]
theorem oI(os:Os):(World.laidAll Tryz.prog os Ek).Shaped Tryz.prog:=World.shaped_of_ZipB (by kernel_rfl) (by kernel_rfl)
theorem mB(os:Os)(args:Array Value):laidMetH Tryz.prog Ek ((World.laidAll Tryz.prog os Ek).forCall (λ_ _=>0) ⟨#[],args,[]⟩).memory:=by
 rw[MakeChecks.laidMetH_plain _ _ _ (by kernel_rfl)];exact laidMet_laidAll _ (by kernel_rfl) (by kernel_rfl)
def Bk(w:World):Gh:={ loc:=λ_=>none,own:=λ_=>none,Qr:=λB=>match w.heap[B]? with|some (.cells cs _ _)=>cs.size|_=>0 }
theorem Qyi{w:World}(_h:laidMetH Tryz.prog Ek w):Ha GG (Bk w) w:=λg cells hg=>by
 unfold GG at hg;cases hg
theorem Xo{w w':World}{γ':Gh}(h:Qe (Bk w) w γ' w')(may:MemPlace->Prop):w.keptBut w' may:=by
 refine⟨h.os,h.output,λi hi=>?_⟩;have:=(h.free i hi rfl).1;rw[this];cases w.heap[i]? with
 | none=>trivial
 | some x=>
  cases x with
  | cells c t fr=>exact⟨rfl,rfl,rfl,λ_ _=>rfl⟩
  | map es clock=>exact .inr ⟨rfl,rfl⟩
  | _=>rfl
def Ho(W:World)(l:List V)(cs:List Value):Prop:=cs.length=l.length/\∀(i:Nat) (c:V) (v:Value),l[i]?=some c->cs[i]?=some v->K9 (Bk W).Qr W c v
theorem Ho.one{W:World}{c:V}{v:Value}(h:K9 (Bk W).Qr W c v):Ho W [c] [v]:=⟨rfl,λi c' v' hc hv=>by
 cases i with
 | zero=>simp at hc hv;subst hc;subst hv;exact h
 | succ i=>simp at hc⟩
theorem Ho.append{W:World}{l m:List V}{cs ds:List Value}(h:Ho W l cs)(k:Ho W m ds):Ho W (l++m) (cs++ds):=
  ⟨by simp[h.1,k.1],λi c v hc hv=>by
    by_cases hi:i < l.length
    · rw[wD hi] at hc;rw[wD (by rw[h.1];exact hi)] at hv;exact h.2 i c v hc hv
    · rw[wJ (by omega)] at hc;rw[wJ (by rw[h.1];omega),h.1] at hv;exact k.2 _ c v hc hv⟩
def Rd(t:TypeId){α:Type}(c:α->List V)(I:α->Prop):Prop:=
 ∀(H:Type) (enc:TypeId×Value->H) (W:World) (G3:Nat) (cs:List Value) (x:DataW H×List MemPlace),DataW.trod enc Tryz.prog W 0 (λ_=>true) true G3 t cs=some x->∃a:α,I a/\Ho W (c a) cs
theorem DA{t:TypeId}{k:IntKind}(ht:Tryz.prog.underlying t=some (.int k)):Rd t (λn:Int=>[.int k n]) (λn=>(Lit.int k n).wf=true):=λH enc W G3 cs x h=>by
 obtain⟨n,rfl,_,hw⟩:=DataW.trod_int ht h;exact⟨n,hw,.one (.int k n)⟩
theorem fld{H:Type}{enc:TypeId×Value->H}{W:World}{n:Nat}{fs:Array Field}{cs:List Value}{xs:List (DataW H×List MemPlace)}{t o z:Nat}{α:Type}{c:α->List V}{I:α->Prop}
  (hel:∀(i:Nat) (f:Field),fs[i]?=some f->DataW.trod enc Tryz.prog W 0 (λ_=>true) true n f.type ((cs.drop f.offset).take (Tryz.prog.cellsOf f.type))=xs[i]?) (hn:xs.length=fs.size) (i:Nat)
  (hf:(fs[i]?).map (λf=>(f.type,f.offset))=some (t,o)) (hz:Tryz.prog.cellsOf t=z) (r:Rd t c I):∃a:α,I a/\Ho W (c a) ((cs.drop o).take z):=by
 obtain⟨f,h1,h2⟩:=zJ.1 hf;simp only[zT] at h2;obtain⟨rfl,rfl⟩:=h2;have hi:i < xs.length:=by rw[hn];exact(wN.1 h1).1
 have:=hel i f h1;rw[wA hi,hz] at this;exact r H enc W n _ _ this
theorem rD{H:Type}{enc:TypeId×Value->H}{W:World}{n m:Nat}{cs:List Value}{xs:List (DataW H×List MemPlace)}{t z:Nat}{α:Type}{c:α->List V}{I:α->Prop}
  (hel:∀(i:Nat),i < m->DataW.trod enc Tryz.prog W 0 (λ_=>true) true n t ((cs.drop (i * Tryz.prog.cellsOf t)).take (Tryz.prog.cellsOf t))=xs[i]?) (hn:xs.length=m) (i:Nat) (hi:i < m)
  (hz:Tryz.prog.cellsOf t=z) (r:Rd t c I):∃a:α,I a/\Ho W (c a) ((cs.drop (i * z)).take z):=by
 have:=hel i hi;rw[wA (by omega),hz] at this;exact r H enc W n _ _ this
noncomputable def Qi1(t:TypeId):Array Field:=match Tryz.prog.underlying t with|some (.struct f)=>f|_=>#[]
theorem hP{H:Type}{enc:TypeId×Value->H}{W:World}{t:TypeId}{α:Type}{c:α->List V}{I:α->Prop}(r:Rd t c I){v:Value}{d:DataW H}{p:List MemPlace}(hv:∃cs,v=.agg cs)
  (h:DataW.Trod enc Tryz.prog W 0 (λ_=>true) true t v d p):∃a:α,I a/\Qz (Bk W) W (Qm []) Qw (.agg (c a)) v:=by
 obtain⟨cs,rfl⟩:=hv;obtain⟨G3,hf⟩:=h;obtain⟨a,hi,hc⟩:=r H enc W G3 _ _ hf;refine⟨a,hi,?_⟩;have:=Qz.agg (γ:=Bk W) (w:=W) (bs:=Qm []) (u:=Qw) (c a) cs.toList hc.1 (λi x y hx hy=>.data (hc.2 i x y hx hy));simpa using this
theorem BX{W:World}{base:Nat}{t:TypeId}{v:Value}{fs:Array Field}(ht:Tryz.prog.underlying t=some (.struct fs))(h:Value.okWide Tryz.prog W .any base t v):∃cs,v=.agg cs:=by
 simp only[Value.okWide,ht] at h;obtain⟨cs,h1,_⟩:=h;exact⟨cs,h1⟩
theorem laidOut:laidOutB Tryz.prog=true:=by kernel_rfl
theorem OK{w w':World}{γ':Gh}(h:Qe (Bk w) w γ' w'):RowKit.Below w.heap.size w w':=
 ⟨h.os,h.tape,h.output,h.size,λk hk=>(h.free k hk rfl).1⟩
theorem AW{H:Type}{enc:TypeId×Value->H}{W:World}{t:TypeId}{α:Type}{c:α->List V}{I:α->Prop}(r:Rd t c I){v:Value}{d:DataW H}{p:List MemPlace}(hv:v.cells=#[v])
  (h:DataW.Trod enc Tryz.prog W 0 (λ_=>true) true t v d p):∃a:α,I a/\∀x,c a=[x]->Qz (Bk W) W (Qm []) Qw x v:=by
 obtain⟨G3,hf⟩:=h;rw[hv] at hf;obtain⟨a,hi,hc⟩:=r H enc W G3 _ _ hf;refine⟨a,hi,λx hx=>?_⟩;rw[hx] at hc;exact .data (hc.2 0 x v rfl rfl)
theorem Gw{W:World}{base:Nat}{t:TypeId}{k:IntKind}{v:Value}(ht:Tryz.prog.underlying t=some (.int k))(h:Value.okWide Tryz.prog W .any base t v):v.cells=#[v]:=by
 obtain⟨n,rfl⟩:=WideShapes.okWide_int ht h;rfl
section
variable {H:Type} {enc:TypeId×Value->H} {P:Program} {w:World} {base:Nat} {spare:zl} {held:Bool}
end
theorem LN{n:Int}(h:(Lit.int .u8 n).wf=true):0<=n/\n<=255:=by
 simp[Lit.wf,IntKind.min,IntKind.max,IntKind.signed,IntKind.bits] at h;omega
theorem LR{n:Int}(h:(Lit.int .u16 n).wf=true):0<=n/\n<=65535:=by
 simp[Lit.wf,IntKind.min,IntKind.max,IntKind.signed,IntKind.bits] at h;omega
end Go.Proofs.YtjdieimefebnfaaGreatDoor
namespace Go.Proofs.YtjdieimefebnfaaGreatDoor
open Go Go.EV
theorem u26:Tryz.prog.underlying 26=some (.struct (Qi1 26)):=by kernel_rfl
theorem Qd9:Tryz.prog.cellsOf 26=7:=by kernel_rfl
theorem u22:Tryz.prog.underlying 22=some (.array 2 5):=by kernel_rfl
theorem bR:Tryz.prog.cellsOf 22=2:=by kernel_rfl
theorem u5:Tryz.prog.underlying 5=some (.int .u8):=by kernel_rfl
theorem zc5:Tryz.prog.cellsOf 5=1:=by kernel_rfl
theorem ln2{α:Type}{l:List α}(h:l.length=2):∃v0 v1,l=[v0,v1]:=by match l,h with|[v0,v1],_=>exact⟨v0,v1,rfl⟩
def c22(x:EJ):List V:=[.int .u8 x.a0,.int .u8 x.a1]
def Quh(x:EJ):Prop:=(Lit.int .u8 x.a0).wf=true/\(Lit.int .u8 x.a1).wf=true
theorem Qhi:Rd 22 c22 Quh:=λH enc W G3 cs x h=>by
 obtain⟨xs,m,rfl,-,hl,hn,hel⟩:=DataW.trod_array u22 h;rw[bR] at hl;obtain⟨v0,v1,rfl⟩:=ln2 hl;obtain⟨a0,i0,k0⟩:=rD hel hn 0 (by omega) zc5 (DA u5);obtain⟨a1,i1,k1⟩:=rD hel hn 1 (by omega) zc5 (DA u5);exact⟨⟨a0,a1⟩,⟨i0,i1⟩,k0.append k1⟩
theorem u24:Tryz.prog.underlying 24=some (.array 2 23):=by kernel_rfl
theorem Que:Tryz.prog.cellsOf 24=2:=by kernel_rfl
theorem u23:Tryz.prog.underlying 23=some (.int .u16):=by kernel_rfl
theorem bN:Tryz.prog.cellsOf 23=1:=by kernel_rfl
def Xp(x:EU):List V:=[.int .u16 x.a0,.int .u16 x.a1]
def Qd3(x:EU):Prop:=(Lit.int .u16 x.a0).wf=true/\(Lit.int .u16 x.a1).wf=true
theorem Qdg:Rd 24 Xp Qd3:=λH enc W G3 cs x h=>by
 obtain⟨xs,m,rfl,-,hl,hn,hel⟩:=DataW.trod_array u24 h;rw[Que] at hl;obtain⟨v0,v1,rfl⟩:=ln2 hl;obtain⟨a0,i0,k0⟩:=rD hel hn 0 (by omega) bN (DA u23);obtain⟨a1,i1,k1⟩:=rD hel hn 1 (by omega) bN (DA u23);exact⟨⟨a0,a1⟩,⟨i0,i1⟩,k0.append k1⟩
theorem ln7{α:Type}{l:List α}(h:l.length=7):∃v0 v1 v2 v3 v4 v5 v6,l=[v0,v1,v2,v3,v4,v5,v6]:=by match l,h with|[v0,v1,v2,v3,v4,v5,v6],_=>exact⟨v0,v1,v2,v3,v4,v5,v6,rfl⟩
def c26(x:QM):List V:=[.int .u8 x.fH.a0,.int .u8 x.fH.a1,.int .u16 x.fF.a0,.int .u16 x.fF.a1,.int .u16 x.ga,.int .u8 x.gc.a0,.int .u8 x.gc.a1]
def Quu(x:QM):Prop:=Quh x.fH/\Qd3 x.fF/\(Lit.int .u16 x.ga).wf=true/\Quh x.gc
theorem Qdf:Rd 26 c26 Quu:=λH enc W G3 cs x h=>by
 obtain⟨xs,m,rfl,-,hl,hn,hel⟩:=DataW.trod_struct u26 h;rw[Qd9] at hl;obtain⟨v0,v1,v2,v3,v4,v5,v6,rfl⟩:=ln7 hl;obtain⟨a0,i0,k0⟩:=fld hel hn 0 (t:=22) (o:=0) (by kernel_rfl) bR Qhi;obtain⟨a1,i1,k1⟩:=fld hel hn 1 (t:=24) (o:=2) (by kernel_rfl) Que Qdg;obtain⟨a2,i2,k2⟩:=fld hel hn 2 (t:=23) (o:=4) (by kernel_rfl) bN (DA u23);obtain⟨a3,i3,k3⟩:=fld hel hn 3 (t:=22) (o:=5) (by kernel_rfl) bR Qhi;exact⟨⟨a0,a1,a2,a3⟩,⟨i0,i1,i2,i3⟩,k0.append (k1.append (k2.append k3))⟩
theorem u4:Tryz.prog.underlying 4=some .bool:=by kernel_rfl
theorem yF{d:QM}(h:Quu d):GX d:=have a:=LR h.2.1.1;have b:=LR h.2.1.2;⟨⟨a.1,by omega⟩,⟨b.1,by omega⟩,(LN h.2.2.2.1).1,(LN h.q).1⟩
theorem Qjf{d:QM}(h:Quu d):Xy d:=have k:=LR h.2.2.1;⟨yF h,k.1,by omega⟩
end Go.Proofs.YtjdieimefebnfaaGreatDoor
