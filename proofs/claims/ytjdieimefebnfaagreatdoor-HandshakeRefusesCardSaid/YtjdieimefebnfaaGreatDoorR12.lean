/- Badges of the program: their octets, written and read ..; no conditions. -/
import Derived.Test.YtjdieimefebnfaaGreatDoorR9
import Derived.Test.YtjdieimefebnfaaGreatDoorR11
import Derived.KernelRfl
set_option linter.unusedVariables false
set_option linter.unusedSimpArgs false
set_option maxRecDepth 100000
namespace Go.Proofs.YtjdieimefebnfaaGreatDoor
open Go Go.EV
def Zi(n:Nat)(v:Int):ze:=strOfNums (Jh n v)
theorem T5(n:Nat)(v:Int):(Zi n v).size=n:=by unfold Zi;rw[E5,Hk]
def GJ:ze:=bs [102,100,1]
theorem Ry:GJ.size=3:=rfl
def K2(b:Z6):ze:=GJ++Zi 6 b.fP++Zi 6 b.fC++Zi 6 b.fB++Zi 1 (b.fp.size:Int)++b.fp++b.fH
theorem S6{n:ze}(h:B4 n=true):1<=n.size/\n.size<=32:=by
 simp_all [zG,zI,B4]
theorem N6{b:Z6}(h:G1 b=true):B4 b.fp=true/\b.fH.size=32/\0<=b.fC/\b.fC<=b.fB/\b.fB<=1099511627776/\0<=b.fP/\b.fP<=281474976710655:=by
 simp_all [zG,zI,G1]
theorem Kk{b:Z6}(h:G1 b=true):(K2 b).size=54+b.fp.size:=by
 grind [N6,ByteArray.size_append,T5,Ry,K2]
theorem Qqv(v:Int)(h0:0<=v)(h:v < 281474976710656):Qy (tE 6 v) (λr=>r=(strOfNums (Jh 6 v),0)):=
 Qhr h0 (by rw[T7 v _ (by decide)];simp;omega) (show (Qya 6 v).run=(bif decide (v < 0) then some (zg,2) else bif (Z3 .i64 v ((8 * 6:Nat):Int) != 0) then some (zg,6) else some (strOfNums [Qk (Z3 .i64 v ((40:Nat):Int)),Qk (Z3 .i64 v ((32:Nat):Int)),Qk (Z3 .i64 v ((24:Nat):Int)),Qk (Z3 .i64 v ((16:Nat):Int)),Qk (Z3 .i64 v ((8:Nat):Int)),Qk (Z3 .i64 v ((0:Nat):Int))],0)) by kernel_rfl)
  (by simp only[B9,T7 _ _ (show 0<=64 by decide),T7 _ _ (show 8<=64 by decide),T7 _ _ (show 16<=64 by decide),T7 _ _ (show 24<=64 by decide),T7 _ _ (show 32<=64 by decide),T7 _ _ (show 40<=64 by decide),Jh,List.nil_append,List.cons_append,Int.pow_zero,Int.ediv_one,List.cons.injEq,and_true];omega)
theorem FQ(v:Int)(h0:0<=v)(h:v < 281474976710656):Qy (Ng 6 v) (λr=>r=Zi 6 v):=by
 unfold Ng;refine Qy.fn ?_;unfold Qyb;exact Ok.c (Qqv v h0 h) λr hr=>Ok.d (by rw[hr];rfl)
theorem gG(v:Int)(h0:0<=v)(h:v < 256):Qy (Ng 1 v) (λr=>r=Zi 1 v):=by
 unfold Ng;refine Qy.fn ?_;unfold Qyb;exact Ok.c (Qz0 v h0 h) λr hr=>Ok.d (by rw[hr];rfl)
theorem FZ(b:Z6):Qy (jF b) (λr=>r=if G1 b then (K2 b,0) else (zg,180)):=by
 unfold jF;refine Qy.fn ?_;unfold Qml;refine Ok.c (Wm b) λr hr=>?_;subst hr;refine Ok.e (λh=>Ok.d ?_) λh=>?_
 ·grind
 ·have hv:G1 b=true:=by simpa using h
  obtain⟨h1,h2,h3,h4,h5,h6,h7⟩:=N6 hv;obtain⟨z1,z2⟩:=S6 h1;rw[if_pos hv];refine Ok.c (FQ b.fP h6 (by omega)) λr1 e1=>Ok.k ?_ (Ok.c (FQ b.fC h3 (by omega)) λr2 e2=>Ok.k ?_ (Ok.c (FQ b.fB (by omega) (by omega)) λr3 e3=>Ok.k ?_ (Ok.c (gG (b.fp.size:Int) (by omega) (by omega)) λr4 e4=>Ok.k ?_ (Ok.k ?_ (Ok.k ?_ (Ok.d ?_))))));all_goals subst_vars
  iterate 6
   ·simp only[ByteArray.size_append,T5,zI,show (bs [102,100,1]).size=3 from rfl,h2];omega
  ·rfl
def zB:Z6:=⟨zg,zg,0,0,0⟩
def Hr(s:ze):Nat:=(QQ s 21).toNat
def QI(s:ze):Z6:=⟨s.extract 22 (22+Hr s),s.extract (22+Hr s) (54+Hr s),num (Q3 (s.extract 9 15)),num (Q3 (s.extract 15 21)),num (Q3 (s.extract 3 9))⟩
def okB(s:ze):Bool:=decide (22<=s.size)&&(decide (s.size=54+Hr s)&&(decide (s.extract 0 3=GJ)&&G1 (QI s)))
def JL(s:ze):Z6×Int:=bif okB s then (QI s,0) else (zB,5)
theorem Xt(e:Int):(tR e).o=some (bif e != 0 then .inr () else .inl ()):=by
 show (Qyp e).run=_;unfold Qyp;simp only[T.run];cases (e != 0)<;>rfl
theorem yW(p:Z6)(s:ze)(a n:Nat)(ha:a<=s.size)(hs:s.size<=1000000) :
  (jL (n:Int) ⟨p,⟨s,a⟩⟩).o=some (if a+n<=s.size then .inl (s,((a+n:Nat):Int),s.extract a (a+n)) else .inr ()):=by
 show (Qj6 (n:Int) ⟨p,⟨s,a⟩⟩).run=_;unfold Qj6;by_cases h:a+n<=s.size
 ·have h1:=(Qqn s a n h hs).eq;simp_all [Xt,if_pos,T.run]
 ·obtain⟨r,h1,h2⟩:=lP s a n ha (by omega) hs;simp_all [Xt,if_neg,T.run]
theorem BX(p:Z6)(s:ze)(a n:Nat)(ha:a<=s.size)(hn:1<=n)(hn7:n<=7)(hs:s.size<=1000000) :
  (TU (n:Int) ⟨p,⟨s,a⟩⟩).o=some (if a+n<=s.size then .inl (s,((a+n:Nat):Int),num (Q3 (s.extract a (a+n)))) else .inr ()):=by
 show (Qj5 (n:Int) ⟨p,⟨s,a⟩⟩).run=_;unfold Qj5;by_cases h:a+n<=s.size
 ·have h1:=(Qqg s a n h hn hn7 hs).eq;simp_all [Xt,if_pos,T.run]
 ·obtain⟨r,h1,h2⟩:=lN s a n ha (by omega) hn hn7 hs;simp_all [Xt,if_neg,T.run]
theorem Qzk{s:ze}{a:Nat}(h:a < s.size):num (Q3 (s.extract a (a+1)))=QQ s (a:Int):=by
 have e:Q3 (s.extract a (a+1))=[QQ s (a:Int)]:=by
  refine List.ext_getElem? λi=>?_;have hz:(s.extract a (a+1)).size=1:=by rw[ByteArray.size_extract];omega
  by_cases hi:i < 1
  ·obtain rfl:i=0:=by omega
   grind [P9,XK]
  grind [List.getElem?_eq_none,E4]
 grind [num]
theorem cO(s:ze)(hs:s.size<=1000000):(s85 ⟨zB,⟨s,0⟩⟩).o=some (if 3<=s.size/\s.extract 0 3=GJ then .inl (s,3) else .inr ()):=by
 show (g85 ⟨zB,⟨s,0⟩⟩).run=_;unfold g85
 have h1:(jL 3 ⟨zB,⟨s,0⟩⟩).o=some (if 0+3<=s.size then .inl (s,3,s.extract 0 3) else .inr ()):=yW zB s 0 3 (by omega) hs;simp only[T.run,h1];by_cases h:0+3<=s.size
 ·rw[if_pos h];by_cases h2:s.extract 0 3=GJ
  ·rw[if_pos ⟨by omega,h2⟩,h2];rfl
  ·rw[if_neg (λq=>h2 q.2)];simp only[show (decide (s.extract 0 3=bs [102,100,1]))=false from qe h2];rfl
 grind
theorem Qxs(p:Z6)(s:ze)(a:Nat)(ha:a<=s.size)(hs:s.size<=1000000):(s86 ⟨p,⟨s,a⟩⟩).o=some (if a+6<=s.size then .inl (num (Q3 (s.extract a (a+6))),s,((a+6:Nat):Int)) else .inr ()):=by
 show (g86 ⟨p,⟨s,a⟩⟩).run=_;unfold g86
 have h1:=BX p s a 6 ha (by decide) (by decide) hs;simp only[show ((6:Nat):Int)=6 from rfl] at h1;simp only[T.run,h1];by_cases h:a+6<=s.size
 ·grind
 grind
theorem Qw9(p:Z6)(s:ze)(a:Nat)(ha:a<=s.size)(hs:s.size<=1000000):(s87 ⟨p,⟨s,a⟩⟩).o=some (if a+6<=s.size then .inl (num (Q3 (s.extract a (a+6))),s,((a+6:Nat):Int)) else .inr ()):=by
 show (g87 ⟨p,⟨s,a⟩⟩).run=_;unfold g87
 have h1:=BX p s a 6 ha (by decide) (by decide) hs;simp only[show ((6:Nat):Int)=6 from rfl] at h1;simp only[T.run,h1];by_cases h:a+6<=s.size
 ·grind
 grind
theorem Qw8(p:Z6)(s:ze)(a:Nat)(ha:a<=s.size)(hs:s.size<=1000000):(s88 ⟨p,⟨s,a⟩⟩).o=some (if a+6<=s.size then .inl (num (Q3 (s.extract a (a+6))),s,((a+6:Nat):Int)) else .inr ()):=by
 show (g88 ⟨p,⟨s,a⟩⟩).run=_;unfold g88
 have h1:=BX p s a 6 ha (by decide) (by decide) hs;simp only[show ((6:Nat):Int)=6 from rfl] at h1;simp only[T.run,h1];by_cases h:a+6<=s.size
 ·grind
 grind
theorem Qwz(p:Z6)(s:ze)(ha:21<=s.size)(hs:s.size<=1000000):(s89 ⟨p,⟨s,21⟩⟩).o=some (if 22+Hr s<=s.size then .inl (s.extract 22 (22+Hr s),s,((22+Hr s:Nat):Int)) else .inr ()):=by
 show (g89 ⟨p,⟨s,21⟩⟩).run=_;unfold g89
 have h1:(TU 1 ⟨p,⟨s,21⟩⟩).o=_:=BX p s 21 1 ha (by decide) (by decide) hs;simp only[T.run,h1];by_cases h:21+1<=s.size
 ·rw[if_pos h];have hb:=E9 s 21;have e:num (Q3 (s.extract 21 (21+1)))=(Hr s:Int):=by
   grind [Qzk,Hr,QQ]
  have h2:=yW p s 22 (Hr s) (by omega) hs;grind
 grind
theorem Qxc(p:Z6)(s:ze)(a:Nat)(ha:a<=s.size)(hs:s.size<=1000000):(s90 ⟨p,⟨s,a⟩⟩).o=some (if a+32<=s.size then .inl (s.extract a (a+32),s,((a+32:Nat):Int)) else .inr ()):=by
 show (g90 ⟨p,⟨s,a⟩⟩).run=_;unfold g90
 have h1:=yW p s a 32 ha hs;simp only[show ((32:Nat):Int)=32 from rfl] at h1;simp only[T.run,h1];by_cases h:a+32<=s.size
 ·grind
 grind
theorem Qzx{a b:Nat}(h:a=b):(((a:Nat):Int) != (b:Int))=false:=by subst h;simp
theorem gV{a b:Nat}(h:a≠b):(((a:Nat):Int) != (b:Int))=true:=by simp;omega
def iV(r:Z6×Int):BU:=(r.1.fp,r.1.fH,r.1.fC,r.1.fB,r.1.fP,r.2)
set_option maxHeartbeats 2000000 in
theorem Qu3(s:ze)(hs:s.size<=1000000):bW s=some (iV (JL s)):=by
 have bad:okB s=false->JL s=(zB,5):=(by grind [JL])
 have inr:(Xe s).run=some (.inr ())->okB s=false->bW s=some (iV (JL s)):=λh h2=>by
  unfold bW;rw[h,bad h2];rfl
 have no:¬(54+Hr s<=s.size)->okB s=false:=(by grind [decide_eq_false,okB,Hr])
 have e3:((3:Nat):Int)=3:=rfl
 have f0:=cO s hs;by_cases c0:3<=s.size/\s.extract 0 3=GJ
 rotate_left
 ·rw[if_neg c0] at f0;refine inr ?_ ?_
  ·unfold Xe;simp only[T.run,show (Z6.mk zg zg 0 0 0)=zB from rfl,f0]
  grind [decide_eq_false,okB]
 rw[if_pos c0] at f0;have f1:(s86 ⟨zB,⟨s,3⟩⟩).o=_:=Qxs zB s 3 (by omega) hs;by_cases c1:3+6<=s.size
 rotate_left
 ·rw[if_neg c1] at f1;refine inr ?_ (no (by omega));unfold Xe;simp only[T.run,show (Z6.mk zg zg 0 0 0)=zB from rfl,f0,f1]
 rw[if_pos c1] at f1;have f2:∀p,(s87 ⟨p,⟨s,((3+6:Nat):Int)⟩⟩).o=_:=λp=>Qw9 p s 9 (by omega) hs;by_cases c2:9+6<=s.size
 rotate_left
 ·simp only[if_neg c2] at f2;refine inr ?_ (no (by omega));unfold Xe;simp only[T.run,show (Z6.mk zg zg 0 0 0)=zB from rfl,f0,f1,f2]
 simp only[if_pos c2] at f2;have f3:∀p,(s88 ⟨p,⟨s,((9+6:Nat):Int)⟩⟩).o=_:=λp=>Qw8 p s 15 (by omega) hs;by_cases c3:15+6<=s.size
 rotate_left
 ·simp only[if_neg c3] at f3;refine inr ?_ (no (by omega));unfold Xe;simp only[T.run,show (Z6.mk zg zg 0 0 0)=zB from rfl,f0,f1,f2,f3]
 simp only[if_pos c3] at f3;have f4:∀p,(s89 ⟨p,⟨s,((15+6:Nat):Int)⟩⟩).o=_:=λp=>Qwz p s (by omega) hs;by_cases c4:22+Hr s<=s.size
 rotate_left
 ·simp only[if_neg c4] at f4;refine inr ?_ (no (by omega));unfold Xe;simp only[T.run,show (Z6.mk zg zg 0 0 0)=zB from rfl,f0,f1,f2,f3,f4]
 simp only[if_pos c4] at f4;have f5:∀p,(s90 ⟨p,⟨s,((22+Hr s:Nat):Int)⟩⟩).o=_:=λp=>Qxc p s (22+Hr s) (by omega) hs;by_cases c5:22+Hr s+32<=s.size
 rotate_left
 ·simp only[if_neg c5] at f5;refine inr ?_ (no (by omega));unfold Xe;simp only[T.run,show (Z6.mk zg zg 0 0 0)=zB from rfl,f0,f1,f2,f3,f4,f5]
 simp only[if_pos c5] at f5;have f6:=(Wm (QI s)).eq;have em:Z6.mk (s.extract 22 (22+Hr s)) (s.extract (22+Hr s) (22+Hr s+32)) (num (Q3 (s.extract 9 (9+6)))) (num (Q3 (s.extract 15 (15+6)))) (num (Q3 (s.extract 3 (3+6))))=QI s:=by
  grind [QI,Hr]
 have run:(Xe s).run=some (.inl (iV (JL s))):=by
  unfold Xe;simp only[T.run,show (Z6.mk zg zg 0 0 0)=zB from rfl,f0,f1,f2,f3,f4,f5,em,f6];by_cases c6:s.size=54+Hr s
  ·rw[Qzx (show 22+Hr s+32=s.size by omega)];have eo:okB s=G1 (QI s):=by
    grind [decide_eq_true,okB]
   unfold JL;rw[eo];cases G1 (QI s) with
   | true=>simp_all [cond_false,Bool.not_true,cond_true,iV,QI,Hr]
   | false=>rfl
  ·rw[gV (show 22+Hr s+32≠s.size by omega)];have eo:okB s=false:=by grind [decide_eq_false,okB]
   rw[bad eo];rfl
 grind [bW]
theorem WB(s:ze)(hs:s.size<=1000000):Qy (s46 s) (λr=>r=JL s):=by
 refine⟨JL s,?_,rfl⟩;show (bW s).map _=_;rw[Qu3 s hs];rfl
end Go.Proofs.YtjdieimefebnfaaGreatDoor
