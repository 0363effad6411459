/- Part X12. -/
import Derived.Test.YtjdieimefebnfaaGreatDoorX11
set_option linter.all false
set_option maxRecDepth 100000
set_option maxHeartbeats 4000000
namespace Go.Proofs.YtjdieimefebnfaaGreatDoor
open Go Go.EV
def Zo(n:Nat)(v:Int):ze:=strOfNums (Jd n v)
theorem T9(n:Nat)(v:Int):(Zo n v).size=n:=by unfold Zo;rw[E1,Hm]
def GS:ze:=bs [102,100,1]
theorem Rl:GS.size=3:=rfl
def W7(b:Z7):ze:=GS++Zo 6 b.fQ++Zo 6 b.fI++Zo 6 b.fF++Zo 1 (b.fy.size:Int)++b.fy++b.fJ
theorem B1{n:ze}(h:P8 n=true):1<=n.size/\n.size<=32:=by
 simp_all [zL,zM,P8]
theorem N8{b:Z7}(h:L9 b=true):P8 b.fy=true/\b.fJ.size=32/\0<=b.fI/\b.fI<=b.fF/\b.fF<=1099511627776/\0<=b.fQ/\b.fQ<=281474976710655:=by
 simp_all [zL,zM,L9]
theorem Ka{b:Z7}(h:L9 b=true):(W7 b).size=54+b.fy.size:=by
 grind [N8,ByteArray.size_append,T9,Rl,W7]
theorem Qz6(v:Int)(h0:0<=v)(h:v < 281474976710656):Qy (tI 6 v) (λr=>r=(strOfNums (Jd 6 v),0)):=
 Qho h0 (by rw[V0 v _ (by decide)];simp;omega) (show (Qyf 6 v).run=(bif decide (v < 0) then some (zg,2) else bif (Z5 .i64 v ((8 * 6:Nat):Int) != 0) then some (zg,6) else some (strOfNums [Qk (Z5 .i64 v ((40:Nat):Int)),Qk (Z5 .i64 v ((32:Nat):Int)),Qk (Z5 .i64 v ((24:Nat):Int)),Qk (Z5 .i64 v ((16:Nat):Int)),Qk (Z5 .i64 v ((8:Nat):Int)),Qk (Z5 .i64 v ((0:Nat):Int))],0)) by kernel_rfl)
  (by simp only[C2,V0 _ _ (show 0<=64 by decide),V0 _ _ (show 8<=64 by decide),V0 _ _ (show 16<=64 by decide),V0 _ _ (show 24<=64 by decide),V0 _ _ (show 32<=64 by decide),V0 _ _ (show 40<=64 by decide),Jd,List.nil_append,List.cons_append,Int.pow_zero,Int.ediv_one,List.cons.injEq,and_true];omega)
theorem FL(v:Int)(h0:0<=v)(h:v < 281474976710656):Qy (NU 6 v) (λr=>r=Zo 6 v):=by
 unfold NU;refine Qy.fn ?_;unfold Qj0;exact Ok.c (Qz6 v h0 h) λr hr=>Ok.d (by rw[hr];rfl)
theorem gP(v:Int)(h0:0<=v)(h:v < 256):Qy (NU 1 v) (λr=>r=Zo 1 v):=by
 unfold NU;refine Qy.fn ?_;unfold Qj0;exact Ok.c (Qz7 v h0 h) λr hr=>Ok.d (by rw[hr];rfl)
theorem SA(b:Z7):Qy (uQ b) (λr=>r=if L9 b then (W7 b,0) else (zg,180)):=by
 unfold uQ;refine Qy.fn ?_;unfold Qmx;refine Ok.c (Ez b) λr hr=>?_;subst hr;refine Ok.e (λh=>Ok.d ?_) λh=>?_
 ·grind
 ·have hv:L9 b=true:=by simpa using h
  obtain⟨h1,h2,h3,h4,h5,h6,h7⟩:=N8 hv;obtain⟨z1,z2⟩:=B1 h1;rw[if_pos hv];refine Ok.c (FL b.fQ h6 (by omega)) λr1 e1=>Ok.k ?_ (Ok.c (FL b.fI h3 (by omega)) λr2 e2=>Ok.k ?_ (Ok.c (FL b.fF (by omega) (by omega)) λr3 e3=>Ok.k ?_ (Ok.c (gP (b.fy.size:Int) (by omega) (by omega)) λr4 e4=>Ok.k ?_ (Ok.k ?_ (Ok.k ?_ (Ok.d ?_))))));all_goals subst_vars
  iterate 6
   ·simp only[ByteArray.size_append,T9,zM,show (bs [102,100,1]).size=3 from rfl,h2];omega
  ·rfl
def zB:Z7:=⟨zg,zg,0,0,0⟩
def Hs(s:ze):Nat:=(QQ s 21).toNat
def Zm(s:ze):Z7:=⟨s.extract 22 (22+Hs s),s.extract (22+Hs s) (54+Hs s),num (Q2 (s.extract 9 15)),num (Q2 (s.extract 15 21)),num (Q2 (s.extract 3 9))⟩
def okB(s:ze):Bool:=decide (22<=s.size)&&(decide (s.size=54+Hs s)&&(decide (s.extract 0 3=GS)&&L9 (Zm s)))
def UQ(s:ze):Z7×Int:=bif okB s then (Zm s,0) else (zB,5)
theorem XK(e:Int):(tV e).o=some (bif e != 0 then .inr () else .inl ()):=by
 show (Qyt e).run=_;unfold Qyt;simp only[T.run];cases (e != 0)<;>rfl
theorem yN(p:Z7)(s:ze)(a n:Nat)(ha:a<=s.size)(hs:s.size<=1000000) :
  (jV (n:Int) ⟨p,⟨s,a⟩⟩).o=some (if a+n<=s.size then .inl (s,((a+n:Nat):Int),s.extract a (a+n)) else .inr ()):=by
 show (Qjq (n:Int) ⟨p,⟨s,a⟩⟩).run=_;unfold Qjq;by_cases h:a+n<=s.size
 ·have h1:=(Qqv s a n h hs).eq;simp_all [XK,if_pos,T.run]
 ·obtain⟨r,h1,h2⟩:=lT s a n ha (by omega) hs;simp_all [XK,if_neg,T.run]
theorem BP(p:Z7)(s:ze)(a n:Nat)(ha:a<=s.size)(hn:1<=n)(hn7:n<=7)(hs:s.size<=1000000) :
  (TN (n:Int) ⟨p,⟨s,a⟩⟩).o=some (if a+n<=s.size then .inl (s,((a+n:Nat):Int),num (Q2 (s.extract a (a+n)))) else .inr ()):=by
 show (Qj9 (n:Int) ⟨p,⟨s,a⟩⟩).run=_;unfold Qj9;by_cases h:a+n<=s.size
 ·have h1:=(Qqc s a n h hn hn7 hs).eq;simp_all [XK,if_pos,T.run]
 ·obtain⟨r,h1,h2⟩:=lB s a n ha (by omega) hn hn7 hs;simp_all [XK,if_neg,T.run]
theorem Qza{s:ze}{a:Nat}(h:a < s.size):num (Q2 (s.extract a (a+1)))=QQ s (a:Int):=by
 have e:Q2 (s.extract a (a+1))=[QQ s (a:Int)]:=by
  refine List.ext_getElem? λi=>?_;have hz:(s.extract a (a+1)).size=1:=by rw[ByteArray.size_extract];omega
  by_cases hi:i < 1
  ·obtain rfl:i=0:=by omega
   grind [S7,XG]
  grind [List.getElem?_eq_none,E7]
 grind [num]
theorem cN(s:ze)(hs:s.size<=1000000):(s85 ⟨zB,⟨s,0⟩⟩).o=some (if 3<=s.size/\s.extract 0 3=GS then .inl (s,3) else .inr ()):=by
 show (g85 ⟨zB,⟨s,0⟩⟩).run=_;unfold g85;have h1:(jV 3 ⟨zB,⟨s,0⟩⟩).o=some (if 0+3<=s.size then .inl (s,3,s.extract 0 3) else .inr ()):=yN zB s 0 3 (by omega) hs;simp only[T.run,h1];by_cases h:0+3<=s.size
 ·rw[if_pos h];by_cases h2:s.extract 0 3=GS
  ·rw[if_pos ⟨by omega,h2⟩,h2];rfl
  ·rw[if_neg (λq=>h2 q.2)];simp only[show (decide (s.extract 0 3=bs [102,100,1]))=false from qm h2];rfl
 grind
theorem Qx2(p:Z7)(s:ze)(a:Nat)(ha:a<=s.size)(hs:s.size<=1000000):(s86 ⟨p,⟨s,a⟩⟩).o=some (if a+6<=s.size then .inl (num (Q2 (s.extract a (a+6))),s,((a+6:Nat):Int)) else .inr ()):=by
 show (g86 ⟨p,⟨s,a⟩⟩).run=_;unfold g86;have h1:=BP p s a 6 ha (by decide) (by decide) hs;simp only[show ((6:Nat):Int)=6 from rfl] at h1;simp only[T.run,h1];by_cases h:a+6<=s.size
 ·grind
 grind
theorem Qw5(p:Z7)(s:ze)(a:Nat)(ha:a<=s.size)(hs:s.size<=1000000):(s87 ⟨p,⟨s,a⟩⟩).o=some (if a+6<=s.size then .inl (num (Q2 (s.extract a (a+6))),s,((a+6:Nat):Int)) else .inr ()):=by
 show (g87 ⟨p,⟨s,a⟩⟩).run=_;unfold g87;have h1:=BP p s a 6 ha (by decide) (by decide) hs;simp only[show ((6:Nat):Int)=6 from rfl] at h1;simp only[T.run,h1];by_cases h:a+6<=s.size
 ·grind
 grind
theorem Qw4(p:Z7)(s:ze)(a:Nat)(ha:a<=s.size)(hs:s.size<=1000000):(s88 ⟨p,⟨s,a⟩⟩).o=some (if a+6<=s.size then .inl (num (Q2 (s.extract a (a+6))),s,((a+6:Nat):Int)) else .inr ()):=by
 show (g88 ⟨p,⟨s,a⟩⟩).run=_;unfold g88;have h1:=BP p s a 6 ha (by decide) (by decide) hs;simp only[show ((6:Nat):Int)=6 from rfl] at h1;simp only[T.run,h1];by_cases h:a+6<=s.size
 ·grind
 grind
theorem Qw6(p:Z7)(s:ze)(ha:21<=s.size)(hs:s.size<=1000000):(s89 ⟨p,⟨s,21⟩⟩).o=some (if 22+Hs s<=s.size then .inl (s.extract 22 (22+Hs s),s,((22+Hs s:Nat):Int)) else .inr ()):=by
 show (g89 ⟨p,⟨s,21⟩⟩).run=_;unfold g89;have h1:(TN 1 ⟨p,⟨s,21⟩⟩).o=_:=BP p s 21 1 ha (by decide) (by decide) hs;simp only[T.run,h1];by_cases h:21+1<=s.size
 ·rw[if_pos h];have hb:=D1 s 21;have e:num (Q2 (s.extract 21 (21+1)))=(Hs s:Int):=by
   grind [Qza,Hs,QQ]
  have h2:=yN p s 22 (Hs s) (by omega) hs;grind
 grind
theorem Qx4(p:Z7)(s:ze)(a:Nat)(ha:a<=s.size)(hs:s.size<=1000000):(s90 ⟨p,⟨s,a⟩⟩).o=some (if a+32<=s.size then .inl (s.extract a (a+32),s,((a+32:Nat):Int)) else .inr ()):=by
 show (g90 ⟨p,⟨s,a⟩⟩).run=_;unfold g90;have h1:=yN p s a 32 ha hs;simp only[show ((32:Nat):Int)=32 from rfl] at h1;simp only[T.run,h1];by_cases h:a+32<=s.size
 ·grind
 grind
theorem Qzf{a b:Nat}(h:a=b):(((a:Nat):Int) != (b:Int))=false:=by subst h;simp
theorem nZ{a b:Nat}(h:a≠b):(((a:Nat):Int) != (b:Int))=true:=by simp;omega
def oH(r:Z7×Int):BO:=(r.1.fy,r.1.fJ,r.1.fI,r.1.fF,r.1.fQ,r.2)
set_option maxHeartbeats 2000000 in
theorem Qu6(s:ze)(hs:s.size<=1000000):bE s=some (oH (UQ s)):=by
 have bad:okB s=false->UQ s=(zB,5):=(by grind [UQ])
 have inr:(Xf s).run=some (.inr ())->okB s=false->bE s=some (oH (UQ s)):=λh h2=>by
  unfold bE;rw[h,bad h2];rfl
 have no:¬(54+Hs s<=s.size)->okB s=false:=(by grind [decide_eq_false,okB,Hs])
 have e3:((3:Nat):Int)=3:=rfl;have f0:=cN s hs;by_cases c0:3<=s.size/\s.extract 0 3=GS
 rotate_left
 ·rw[if_neg c0] at f0;refine inr ?_ ?_
  ·unfold Xf;simp only[T.run,show (Z7.mk zg zg 0 0 0)=zB from rfl,f0]
  grind [decide_eq_false,okB]
 rw[if_pos c0] at f0;have f1:(s86 ⟨zB,⟨s,3⟩⟩).o=_:=Qx2 zB s 3 (by omega) hs;by_cases c1:3+6<=s.size
 rotate_left
 ·rw[if_neg c1] at f1;refine inr ?_ (no (by omega));unfold Xf;simp only[T.run,show (Z7.mk zg zg 0 0 0)=zB from rfl,f0,f1]
 rw[if_pos c1] at f1;have f2:∀p,(s87 ⟨p,⟨s,((3+6:Nat):Int)⟩⟩).o=_:=λp=>Qw5 p s 9 (by omega) hs;by_cases c2:9+6<=s.size
 rotate_left
 ·simp only[if_neg c2] at f2;refine inr ?_ (no (by omega));unfold Xf;simp only[T.run,show (Z7.mk zg zg 0 0 0)=zB from rfl,f0,f1,f2]
 simp only[if_pos c2] at f2;have f3:∀p,(s88 ⟨p,⟨s,((9+6:Nat):Int)⟩⟩).o=_:=λp=>Qw4 p s 15 (by omega) hs;by_cases c3:15+6<=s.size
 rotate_left
 ·simp only[if_neg c3] at f3;refine inr ?_ (no (by omega));unfold Xf;simp only[T.run,show (Z7.mk zg zg 0 0 0)=zB from rfl,f0,f1,f2,f3]
 simp only[if_pos c3] at f3;have f4:∀p,(s89 ⟨p,⟨s,((15+6:Nat):Int)⟩⟩).o=_:=λp=>Qw6 p s (by omega) hs;by_cases c4:22+Hs s<=s.size
 rotate_left
 ·simp only[if_neg c4] at f4;refine inr ?_ (no (by omega));unfold Xf;simp only[T.run,show (Z7.mk zg zg 0 0 0)=zB from rfl,f0,f1,f2,f3,f4]
 simp only[if_pos c4] at f4;have f5:∀p,(s90 ⟨p,⟨s,((22+Hs s:Nat):Int)⟩⟩).o=_:=λp=>Qx4 p s (22+Hs s) (by omega) hs;by_cases c5:22+Hs s+32<=s.size
 rotate_left
 ·simp only[if_neg c5] at f5;refine inr ?_ (no (by omega));unfold Xf;simp only[T.run,show (Z7.mk zg zg 0 0 0)=zB from rfl,f0,f1,f2,f3,f4,f5]
 simp only[if_pos c5] at f5;have f6:=(Ez (Zm s)).eq;have em:Z7.mk (s.extract 22 (22+Hs s)) (s.extract (22+Hs s) (22+Hs s+32)) (num (Q2 (s.extract 9 (9+6)))) (num (Q2 (s.extract 15 (15+6)))) (num (Q2 (s.extract 3 (3+6))))=Zm s:=by
  grind [Zm,Hs]
 have run:(Xf s).run=some (.inl (oH (UQ s))):=by
  unfold Xf;simp only[T.run,show (Z7.mk zg zg 0 0 0)=zB from rfl,f0,f1,f2,f3,f4,f5,em,f6];by_cases c6:s.size=54+Hs s
  ·rw[Qzf (show 22+Hs s+32=s.size by omega)];have eo:okB s=L9 (Zm s):=by
    grind [decide_eq_true,okB]
   unfold UQ;rw[eo];cases L9 (Zm s) with
   | true=>simp_all [cond_false,Bool.not_true,cond_true,oH,Zm,Hs]
   | false=>rfl
  ·rw[nZ (show 22+Hs s+32≠s.size by omega)];have eo:okB s=false:=by grind [decide_eq_false,okB]
   rw[bad eo];rfl
 grind [bE]
theorem Dz(s:ze)(hs:s.size<=1000000):Qy (s46 s) (λr=>r=UQ s):=by
 refine⟨UQ s,?_,rfl⟩;show (bE s).map _=_;rw[Qu6 s hs];rfl
end Go.Proofs.YtjdieimefebnfaaGreatDoor
