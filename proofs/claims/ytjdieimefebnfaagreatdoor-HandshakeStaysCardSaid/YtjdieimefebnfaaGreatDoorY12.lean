/- Part Y12. -/
import Derived.Test.YtjdieimefebnfaaGreatDoorY11
set_option linter.unusedVariables false
set_option linter.unusedSimpArgs false
set_option maxRecDepth 100000
namespace Go.Proofs.YtjdieimefebnfaaGreatDoor
open Go Go.EV
def Kn(c:Int):Bool:=(decide (97<=c)&&decide (c<=122)) || ((decide (65<=c)&&decide (c<=90)) || (decide (48<=c)&&decide (c<=57)))
def Mv(c:Int):Bool:=c==46 || c==45
def T8(c:Int):Bool:=Kn c || Mv c
theorem Ba(c:Int)(h:T8 c=true):Kn c=true↔Mv c=false:=by
 unfold T8 at h;unfold Kn Mv at *
 grind
theorem kP(c:Int):Qj (lA c) (λr=>r=T8 c):=by
 unfold lA;refine Qj.fn ?_;unfold Qmc;refine Ok.n (R:=λr=>r=T8 c) ?_ λr hr=>Ok.d hr;unfold T8 Kn Mv
 repeat' grind [Ok.e,Ok.d]
 all_goals grind
theorem CY(x:Int)(h:0<=x/\x < 256):Qj (lJ x) (λc=>c=Mv x):=by
 unfold lJ;refine Qj.fn ?_;unfold Qkx;obtain⟨n,rfl⟩:=Int.eq_ofNat_of_zero_le h.1;have hn:n < 256:=by omega
 refine Ok.HU ?_ ?_
 ·have:∀n:Fin 256,([0,1,2,3,4,5,6,7,8,9,10,11,12,13,14,15,16,17,18,19,20,21,22,23,24,25,26,27,28,29,30,31,32,33,34,35,36,37,38,39,40,41,42,43,44,45,46,47,48,49,50,51,52,53,54,55,56,57,58,59,60,61,62,63,64,65,66,67,68,69,70,71,72,73,74,75,76,77,78,79,80,81,82,83,84,85,86,87,88,89,90,91,92,93,94,95,96,97,98,99,100,101,102,103,104,105,106,107,108,109,110,111,112,113,114,115,116,117,118,119,120,121,122,123,124,125,126,127,128,129,130,131,132,133,134,135,136,137,138,139,140,141,142,143,144,145,146,147,148,149,150,151,152,153,154,155,156,157,158,159,160,161,162,163,164,165,166,167,168,169,170,171,172,173,174,175,176,177,178,179,180,181,182,183,184,185,186,187,188,189,190,191,192,193,194,195,196,197,198,199,200,201,202,203,204,205,206,207,208,209,210,211,212,213,214,215,216,217,218,219,220,221,222,223,224,225,226,227,228,229,230,231,232,233,234,235,236,237,238,239,240,241,242,243,244,245,246,247,248,249,250,251,252,253,254,255]:List Int).contains ((n.val:Nat):Int)=true:=by decide
  exact this ⟨n,hn⟩
 ·cases hb:([45,46]:List Int).contains (n:Int) with
  | true=>
   refine Ok.d ?_;simp only[List.contains_cons,List.contains_nil,Bool.or_false,zY,beq_iff_eq] at hb;grind [Mv]
  | false=>
   simp_all [Ok.d,List.contains_cons,List.contains_nil,Bool.or_false,Bool.or_eq_false_iff,beq_eq_false_iff_ne,ne_eq,Mv]
theorem mW(s:ze)(hs:s.size<=1000):Qj (vY s) (λr=>r.size<=s.size/\(0 < s.size->(Mv (QZ s ((s.size - 1:Nat):Int))=false->r=s)/\(Mv (QZ s ((s.size - 1:Nat):Int))=true->r.size < s.size))):=by
 unfold vY;refine Qj.fn ?_;unfold Qm6;refine Ok.b (R:=λr=>r.size<=s.size/\(0 < s.size->(Mv (QZ s ((s.size - 1:Nat):Int))=false->r=s)/\(Mv (QZ s ((s.size - 1:Nat):Int))=true->r.size < s.size))) ?_ λe he=>Ok.d he;refine Ok.lp (λy=>y=s\/(y.size < s.size/\Mv (QZ s ((s.size - 1:Nat):Int))=true)) (λy=>y.size) (.inl rfl) (O6 (by grind)) λy hy=>?_;have hle:y.size<=s.size:=by grind
 refine Ok.e (λh=>?_) λh=>Ok.d ?_
 ·have h0:0 < y.size:=by simpa using h
  have e1:Q0 ((y.size:Int) - 1)=((y.size - 1:Nat):Int):=by grind [Z2]
  rw[e1];refine Ok.k (by simp;omega) (Ok.c (CY _ (D1 _ _)) λc hc=>?_);subst hc;refine Ok.e (λh1=>Ok.d ?_) λh1=>Ok.k (by simp) (Ok.d ?_)
  ·have h1:Mv (QZ y ((y.size - 1:Nat):Int))=false:=by simpa using h1
   refine⟨hle,λ_=>?_⟩;grind
  ·have h1:Mv (QZ y ((y.size - 1:Nat):Int))=true:=by simpa using h1
   have hz:(y.extract 0 ((y.size - 1:Nat):Int).toNat).size=y.size - 1:=by simp_all
   refine And.intro (.inr ⟨by omega,?_⟩) (by grind);grind
 ·have h0:¬0 < y.size:=by simpa using h
  refine⟨hle,λhp=>?_⟩;grind
theorem mK(s:ze)(hs:s.size<=1000):Qj (vJ s) (λr=>r.size<=s.size/\(0 < s.size->(Mv (QZ s 0)=false->r=s)/\(Mv (QZ s 0)=true->r.size < s.size))):=by
 unfold vJ;refine Qj.fn ?_;unfold Qm7;refine Ok.b (R:=λr=>r.size<=s.size/\(0 < s.size->(Mv (QZ s 0)=false->r=s)/\(Mv (QZ s 0)=true->r.size < s.size))) ?_ λe he=>Ok.d he;refine Ok.lp (λy=>y=s\/(y.size < s.size/\Mv (QZ s 0)=true)) (λy=>y.size) (.inl rfl) (O6 (by grind)) λy hy=>?_;have hle:y.size<=s.size:=by grind
 refine Ok.e (λh=>?_) λh=>Ok.d ?_
 ·have h0:0 < y.size:=by simpa using h
  refine Ok.k (by simp;omega) (Ok.c (CY _ (D1 _ _)) λc hc=>?_);subst hc;refine Ok.e (λh1=>Ok.d ?_) λh1=>Ok.k (by simp;omega) (Ok.d ?_)
  ·have h1:Mv (QZ y 0)=false:=by simpa using h1
   refine⟨hle,λ_=>?_⟩;grind
  ·have h1:Mv (QZ y 0)=true:=by simpa using h1
   have hz:(y.extract 1 y.size).size=y.size - 1:=by simp_all
   refine And.intro (.inr ⟨by omega,?_⟩) (by grind);grind
 ·have h0:¬0 < y.size:=by simpa using h
  refine⟨hle,λhp=>?_⟩;grind
theorem nU(s:ze)(h0:0 < s.size)(hs:s.size<=1000):Qj (Qq1 s) (λr=>decide (r=s)=(!Mv (QZ s 0)&&!Mv (QZ s ((s.size - 1:Nat):Int)))):=by
 unfold Qq1;refine Qj.fn ?_;unfold Qmt;refine Ok.n (R:=λc=>c=false) (Ok.f (qf λe=>by simp_all) (Ok.d rfl)) λc hc=>?_;subst hc;refine Ok.f rfl (Ok.ff (Ok.c (R:=λ_=>True) ⟨(),by rfl,trivial⟩ λ_ _=>Ok.tt (Ok.v (mW s hs) λr1 h1=>Ok.v (mK r1 (by omega)) λr2 h2=>Ok.d ?_)));grind
theorem aV{s:ze}{k:Nat}(h:k < s.size):(VN s (k:Int)).run=some (some (QZ s (k:Int))):=by
 grind [decide_eq_true,VN,T.run]
theorem BN{s:ze}{k:Nat}(h:k=s.size):(VN s (k:Int)).run=some none:=by
 grind [decide_eq_false,VN,T.run]
theorem Qy0(b:Z5)(s:ze)(hs:s.size<=1000):∃e,mVa b s=some e/\(match e with|.inl _=>(Q3 s).all T8=true|.inr _=>(Q3 s).all T8=false):=by
 refine Dm s.size (by omega) (λk y=>y.2=(k:Int)/\∀i,i < k->T8 (QZ s (i:Int))=true) (by grind) (λk y hy hk=>?_) λy hy=>?_
 ·obtain⟨y1,y2⟩:=y;obtain⟨h1,h2⟩:=hy;simp only at h1;subst h1;have hl:=(kP (QZ s (k:Int))).eq;have ea:(VO b s (QZ s (k:Int))).run=(bif !T8 (QZ s (k:Int)) then none else some ()):=by
   grind [VO,T.run]
  have eb:(VI b s (QZ s (k:Int))).run=(bif !T8 (QZ s (k:Int)) then some () else none):=by
   grind [VI,T.run]
  unfold MD;simp only[aV hk,ea,eb];cases hc:T8 (QZ s (k:Int)) with
  | true=>
   refine⟨.inl ((),Q0 ((k:Int)+1)),rfl,Z8 hk (by omega),λi hi=>?_⟩;grind
  | false=>
   refine⟨.inr (.inr ()),rfl,?_⟩;grind [Eb,Q3,T8]
 ·obtain⟨y1,y2⟩:=y;obtain⟨h1,h2⟩:=hy;simp only at h1;subst h1;unfold MD;simp only[BN rfl];exact⟨.inl (),rfl,Eb.2 h2⟩
def B3(n:ze):Bool:=decide (1<=n.size)&&(decide (n.size<=32)&&((Q3 n).all T8&&(Kn (QZ n 0)&&Kn (QZ n ((n.size - 1:Nat):Int)))))
def G5(b:Z5):Bool:=B3 b.ft&&(decide (b.fI.size=32)&&(decide (0<=b.fF)&&(decide (b.fF<=b.fC)&&(decide (b.fC<=1099511627776)&&(decide (0<=b.fQ)&&decide (b.fQ<=281474976710655))))))
theorem Ij{n:ze}(h0:1<=n.size)(h:n.size<=32):B3 n=((Q3 n).all T8&&(!Mv (QZ n 0)&&!Mv (QZ n ((n.size - 1:Nat):Int)))):=by
 grind [decide_eq_true,Ba,Eb,Int.ofNat_zero,B3,Q3,T8]
theorem MV(b:Z5):Qj (OB b) (λr=>r=G5 b):=by
 unfold OB;refine Qj.fn ?_;unfold bU;refine Ok.n (R:=λc=>(c=true->B3 b.ft=false)/\(c=false->1<=b.ft.size/\b.ft.size<=32/\(!Mv (QZ b.ft 0)&&!Mv (QZ b.ft ((b.ft.size - 1:Nat):Int)))=true)) ?_ λc hc=>?_
 ·refine Ok.e (λh=>Ok.d ⟨λ_=>?_,λh=>(by cases h)⟩) λh=>Ok.e (λh2=>Ok.d ⟨λ_=>?_,λh=>(by cases h)⟩) λh2=>?_
  ·grind [decide_eq_false,B3]
  ·grind [decide_eq_false,B3]
  ·have h0:1<=b.ft.size:=by grind
   have h1:b.ft.size<=32:=by grind
   refine Ok.c (nU b.ft (by omega) (by omega)) λr hr=>Ok.d ⟨λhc=>?_,λhc=>⟨h0,h1,?_⟩⟩
   ·rw[hr] at hc;rw[Ij h0 h1,(by grind:(!Mv (QZ b.ft 0)&&!Mv (QZ b.ft ((b.ft.size - 1:Nat):Int)))=false),Bool.and_false]
   grind
 ·refine Ok.e (λh=>Ok.d ?_) λh=>?_
  ·grind [G5]
  ·obtain⟨h0,h1,h2⟩:=hc.2 h;refine Ok.c (R:=λ_=>True) ⟨(),by rfl,trivial⟩ λ_ _=>Ok.g ?_;obtain⟨e,m1,m2⟩:=Qy0 b b.ft (by omega);refine Ok.sH (R:=λe=>match e with|.inl _=>(Q3 b.ft).all T8=true|.inr _=>(Q3 b.ft).all T8=false) (x:=e) m1 (by grind) (λr hr=>?_) λr hr=>Ok.d ?_
   ·have hn:B3 b.ft=true:=by grind [Ij]
    unfold G5;rw[hn];simp only[Bool.true_and]
    repeat' first
     | refine Ok.e (λh=>?_) (λh=>?_)
     | refine Ok.d ?_
    all_goals simp_all
    all_goals omega
   grind [Ij,G5,Q3,T8]
theorem gJ(s:ze)(a n:Nat)(ha:a<=s.size)(h:s.size < a+n)(hn:1<=n)(hn7:n<=7)(hs:s.size<=1000000):Qj (uJ ⟨s,a⟩ (n:Int)) (λr=>r.2.2=7):=by
 unfold uJ;refine Qj.fn ?_;refine Ok.c (R:=λr=>r.2.2=7) ?_ λr hr=>Ok.d hr;unfold tG;refine Qj.fn ?_;unfold Qys;refine Ok.c (FK s a ha) λr hr=>?_;subst hr;refine Ok.f rfl ?_;refine Ok.n (R:=λc=>c=false) ?_ λc hc=>?_
 ·refine Ok.f (by simp;omega) (Ok.d ?_);simp;omega
 ·subst hc;have e1:Q0 ((s.size:Int) - (a:Int))=(s.size:Int) - a:=Z2 (by omega) (by omega);refine Ok.f rfl (Ok.t ?_ (Ok.d rfl));show decide (Q0 ((s.size:Int) - (a:Int)) < (n:Int))=true;rw[e1];simp;omega
theorem gH(s:ze)(a n:Nat)(ha:a<=s.size)(h:s.size < a+n)(hs:s.size<=1000000):Qj (uU ⟨s,a⟩ (n:Int)) (λr=>r.2.2=7):=by
 unfold uU;refine Qj.fn ?_;unfold Qj6;have em:(if (0:Int) > (n:Int) then (0:Int) else (n:Int))=n:=by rw[if_neg (by omega)]
 rw[em];refine Ok.c (R:=λr=>r.2.2=7) ?_ λr hr=>Ok.d hr;unfold tN;refine Qj.fn ?_;unfold Qyb;refine Ok.c (FK s a ha) λr hr=>?_;subst hr;refine Ok.f rfl ?_;refine Ok.n (R:=λc=>c=false) ?_ λc hc=>?_
 ·refine Ok.f (by simp) (Ok.d ?_);simp
 ·subst hc;have e1:Q0 ((s.size:Int) - (a:Int))=(s.size:Int) - a:=Z2 (by omega) (by omega);refine Ok.f rfl (Ok.t ?_ (Ok.d rfl));show decide (Q0 ((s.size:Int) - (a:Int)) < (n:Int))=true;rw[e1];simp;omega
def Zo(n:Nat)(v:Int):ze:=strOfNums (Ju n v)
theorem T4(n:Nat)(v:Int):(Zo n v).size=n:=by unfold Zo;rw[E5,Hk]
def GN:ze:=bs [102,100,1]
theorem Rs:GN.size=3:=rfl
def K5(b:Z5):ze:=GN++Zo 6 b.fQ++Zo 6 b.fF++Zo 6 b.fC++Zo 1 (b.ft.size:Int)++b.ft++b.fI
theorem S5{n:ze}(h:B3 n=true):1<=n.size/\n.size<=32:=by
 simp_all [zF,zI,B3]
theorem N6{b:Z5}(h:G5 b=true):B3 b.ft=true/\b.fI.size=32/\0<=b.fF/\b.fF<=b.fC/\b.fC<=1099511627776/\0<=b.fQ/\b.fQ<=281474976710655:=by
 simp_all [zF,zI,G5]
theorem Kh{b:Z5}(h:G5 b=true):(K5 b).size=54+b.ft.size:=by
 grind [N6,ByteArray.size_append,T4,Rs,K5]
theorem Qzz(v:Int)(h0:0<=v)(h:v < 281474976710656):Qj (tR 6 v) (λr=>r=(strOfNums (Ju 6 v),0)):=
 Qw7 h0 (by rw[T6 v _ (by decide)];simp;omega) (show (Qyc 6 v).run=(bif decide (v < 0) then some (zg,2) else bif (Z3 .i64 v ((8 * 6:Nat):Int) != 0) then some (zg,6) else some (strOfNums [Qm (Z3 .i64 v ((40:Nat):Int)),Qm (Z3 .i64 v ((32:Nat):Int)),Qm (Z3 .i64 v ((24:Nat):Int)),Qm (Z3 .i64 v ((16:Nat):Int)),Qm (Z3 .i64 v ((8:Nat):Int)),Qm (Z3 .i64 v ((0:Nat):Int))],0)) by kernel_rfl)
  (by simp only[B8,T6 _ _ (show 0<=64 by decide),T6 _ _ (show 8<=64 by decide),T6 _ _ (show 16<=64 by decide),T6 _ _ (show 24<=64 by decide),T6 _ _ (show 32<=64 by decide),T6 _ _ (show 40<=64 by decide),Ju,List.nil_append,List.cons_append,Int.pow_zero,Int.ediv_one,List.cons.injEq,and_true];omega)
theorem FO(v:Int)(h0:0<=v)(h:v < 281474976710656):Qj (NH 6 v) (λr=>r=Zo 6 v):=by
 unfold NH;refine Qj.fn ?_;unfold Qj7;exact Ok.c (Qzz v h0 h) λr hr=>Ok.d (by rw[hr];rfl)
theorem nH(v:Int)(h0:0<=v)(h:v < 256):Qj (NH 1 v) (λr=>r=Zo 1 v):=by
 unfold NH;refine Qj.fn ?_;unfold Qj7;exact Ok.c (Qzy v h0 h) λr hr=>Ok.d (by rw[hr];rfl)
theorem FL(b:Z5):Qj (uM b) (λr=>r=if G5 b then (K5 b,0) else (zg,180)):=by
 unfold uM;refine Qj.fn ?_;unfold Qe2;refine Ok.c (MV b) λr hr=>?_;subst hr;refine Ok.e (λh=>Ok.d ?_) λh=>?_
 ·grind
 ·have hv:G5 b=true:=by simpa using h
  obtain⟨h1,h2,h3,h4,h5,h6,h7⟩:=N6 hv;obtain⟨z1,z2⟩:=S5 h1;rw[if_pos hv];refine Ok.c (FO b.fQ h6 (by omega)) λr1 e1=>Ok.k ?_ (Ok.c (FO b.fF h3 (by omega)) λr2 e2=>Ok.k ?_ (Ok.c (FO b.fC (by omega) (by omega)) λr3 e3=>Ok.k ?_ (Ok.c (nH (b.ft.size:Int) (by omega) (by omega)) λr4 e4=>Ok.k ?_ (Ok.k ?_ (Ok.k ?_ (Ok.d ?_))))));all_goals subst_vars
  iterate 6
   ·simp only[ByteArray.size_append,T4,zI,show (bs [102,100,1]).size=3 from rfl,h2];omega
  ·rfl
def zB:Z5:=⟨zg,zg,0,0,0⟩
def Hr(s:ze):Nat:=(QZ s 21).toNat
def Zj(s:ze):Z5:=⟨s.extract 22 (22+Hr s),s.extract (22+Hr s) (54+Hr s),num (Q3 (s.extract 9 15)),num (Q3 (s.extract 15 21)),num (Q3 (s.extract 3 9))⟩
def okB(s:ze):Bool:=decide (22<=s.size)&&(decide (s.size=54+Hr s)&&(decide (s.extract 0 3=GN)&&G5 (Zj s)))
def Ut(s:ze):Z5×Int:=bif okB s then (Zj s,0) else (zB,5)
theorem XI(e:Int):(vU e).o=some (bif e != 0 then .inr () else .inl ()):=by
 show (Qj5 e).run=_;unfold Qj5;simp only[T.run];cases (e != 0)<;>rfl
theorem jQ(p:Z5)(s:ze)(a n:Nat)(ha:a<=s.size)(hs:s.size<=1000000) :
  (uK (n:Int) ⟨p,⟨s,a⟩⟩).o=some (if a+n<=s.size then .inl (s,((a+n:Nat):Int),s.extract a (a+n)) else .inr ()):=by
 show (Qjk (n:Int) ⟨p,⟨s,a⟩⟩).run=_;unfold Qjk;by_cases h:a+n<=s.size
 ·have h1:=(Qz4 s a n h hs).eq;simp_all [XI,if_pos,T.run]
 ·obtain⟨r,h1,h2⟩:=gH s a n ha (by omega) hs;simp_all [XI,if_neg,T.run]
theorem Ch(p:Z5)(s:ze)(a n:Nat)(ha:a<=s.size)(hn:1<=n)(hn7:n<=7)(hs:s.size<=1000000) :
  (Vq (n:Int) ⟨p,⟨s,a⟩⟩).o=some (if a+n<=s.size then .inl (s,((a+n:Nat):Int),num (Q3 (s.extract a (a+n)))) else .inr ()):=by
 show (Qjw (n:Int) ⟨p,⟨s,a⟩⟩).run=_;unfold Qjw;by_cases h:a+n<=s.size
 ·have h1:=(Qz3 s a n h hn hn7 hs).eq;simp_all [XI,if_pos,T.run]
 ·obtain⟨r,h1,h2⟩:=gJ s a n ha (by omega) hn hn7 hs;simp_all [XI,if_neg,T.run]
theorem Qzr{s:ze}{a:Nat}(h:a < s.size):num (Q3 (s.extract a (a+1)))=QZ s (a:Int):=by
 have e:Q3 (s.extract a (a+1))=[QZ s (a:Int)]:=by
  refine List.ext_getElem? λi=>?_;have hz:(s.extract a (a+1)).size=1:=by rw[ByteArray.size_extract];omega
  by_cases hi:i < 1
  ·obtain rfl:i=0:=by omega
   grind [P7,XS]
  grind [List.getElem?_eq_none,E4]
 grind [num]
theorem tJ(s:ze)(hs:s.size<=1000000):(s85 ⟨zB,⟨s,0⟩⟩).o=some (if 3<=s.size/\s.extract 0 3=GN then .inl (s,3) else .inr ()):=by
 show (g85 ⟨zB,⟨s,0⟩⟩).run=_;unfold g85
 have h1:(uK 3 ⟨zB,⟨s,0⟩⟩).o=some (if 0+3<=s.size then .inl (s,3,s.extract 0 3) else .inr ()):=jQ zB s 0 3 (by omega) hs;simp only[T.run,h1];by_cases h:0+3<=s.size
 ·rw[if_pos h];by_cases h2:s.extract 0 3=GN
  ·rw[if_pos ⟨by omega,h2⟩,h2];rfl
  ·rw[if_neg (λq=>h2 q.2)];simp only[show (decide (s.extract 0 3=bs [102,100,1]))=false from qf h2];rfl
 grind
theorem Qaq(p:Z5)(s:ze)(a:Nat)(ha:a<=s.size)(hs:s.size<=1000000):(s86 ⟨p,⟨s,a⟩⟩).o=some (if a+6<=s.size then .inl (num (Q3 (s.extract a (a+6))),s,((a+6:Nat):Int)) else .inr ()):=by
 show (g86 ⟨p,⟨s,a⟩⟩).run=_;unfold g86
 have h1:=Ch p s a 6 ha (by decide) (by decide) hs;simp only[show ((6:Nat):Int)=6 from rfl] at h1;simp only[T.run,h1];by_cases h:a+6<=s.size
 ·grind
 grind
theorem Qwa(p:Z5)(s:ze)(a:Nat)(ha:a<=s.size)(hs:s.size<=1000000):(s87 ⟨p,⟨s,a⟩⟩).o=some (if a+6<=s.size then .inl (num (Q3 (s.extract a (a+6))),s,((a+6:Nat):Int)) else .inr ()):=by
 show (g87 ⟨p,⟨s,a⟩⟩).run=_;unfold g87
 have h1:=Ch p s a 6 ha (by decide) (by decide) hs;simp only[show ((6:Nat):Int)=6 from rfl] at h1;simp only[T.run,h1];by_cases h:a+6<=s.size
 ·grind
 grind
theorem Qwx(p:Z5)(s:ze)(a:Nat)(ha:a<=s.size)(hs:s.size<=1000000):(s88 ⟨p,⟨s,a⟩⟩).o=some (if a+6<=s.size then .inl (num (Q3 (s.extract a (a+6))),s,((a+6:Nat):Int)) else .inr ()):=by
 show (g88 ⟨p,⟨s,a⟩⟩).run=_;unfold g88
 have h1:=Ch p s a 6 ha (by decide) (by decide) hs;simp only[show ((6:Nat):Int)=6 from rfl] at h1;simp only[T.run,h1];by_cases h:a+6<=s.size
 ·grind
 grind
theorem Qwo(p:Z5)(s:ze)(ha:21<=s.size)(hs:s.size<=1000000):(s89 ⟨p,⟨s,21⟩⟩).o=some (if 22+Hr s<=s.size then .inl (s.extract 22 (22+Hr s),s,((22+Hr s:Nat):Int)) else .inr ()):=by
 show (g89 ⟨p,⟨s,21⟩⟩).run=_;unfold g89
 have h1:(Vq 1 ⟨p,⟨s,21⟩⟩).o=_:=Ch p s 21 1 ha (by decide) (by decide) hs;simp only[T.run,h1];by_cases h:21+1<=s.size
 ·rw[if_pos h];have hb:=D1 s 21;have e:num (Q3 (s.extract 21 (21+1)))=(Hr s:Int):=by
   grind [Qzr,Hr,QZ]
  have h2:=jQ p s 22 (Hr s) (by omega) hs;grind
 grind
theorem Qay(p:Z5)(s:ze)(a:Nat)(ha:a<=s.size)(hs:s.size<=1000000):(s90 ⟨p,⟨s,a⟩⟩).o=some (if a+32<=s.size then .inl (s.extract a (a+32),s,((a+32:Nat):Int)) else .inr ()):=by
 show (g90 ⟨p,⟨s,a⟩⟩).run=_;unfold g90
 have h1:=jQ p s a 32 ha hs;simp only[show ((32:Nat):Int)=32 from rfl] at h1;simp only[T.run,h1];by_cases h:a+32<=s.size
 ·grind
 grind
theorem Qzc{a b:Nat}(h:a=b):(((a:Nat):Int) != (b:Int))=false:=by subst h;simp
theorem nX{a b:Nat}(h:a≠b):(((a:Nat):Int) != (b:Int))=true:=by simp;omega
def oL(r:Z5×Int):BS:=(r.1.ft,r.1.fI,r.1.fF,r.1.fC,r.1.fQ,r.2)
set_option maxHeartbeats 2000000 in
theorem Quh(s:ze)(hs:s.size<=1000000):bS s=some (oL (Ut s)):=by
 have bad:okB s=false->Ut s=(zB,5):=(by grind [Ut])
 have inr:(Xs s).run=some (.inr ())->okB s=false->bS s=some (oL (Ut s)):=λh h2=>by
  unfold bS;rw[h,bad h2];rfl
 have no:¬(54+Hr s<=s.size)->okB s=false:=(by grind [decide_eq_false,okB,Hr])
 have e3:((3:Nat):Int)=3:=rfl
 have f0:=tJ s hs;by_cases c0:3<=s.size/\s.extract 0 3=GN
 rotate_left
 ·rw[if_neg c0] at f0;refine inr ?_ ?_
  ·unfold Xs;simp only[T.run,show (Z5.mk zg zg 0 0 0)=zB from rfl,f0]
  grind [decide_eq_false,okB]
 rw[if_pos c0] at f0;have f1:(s86 ⟨zB,⟨s,3⟩⟩).o=_:=Qaq zB s 3 (by omega) hs;by_cases c1:3+6<=s.size
 rotate_left
 ·rw[if_neg c1] at f1;refine inr ?_ (no (by omega));unfold Xs;simp only[T.run,show (Z5.mk zg zg 0 0 0)=zB from rfl,f0,f1]
 rw[if_pos c1] at f1;have f2:∀p,(s87 ⟨p,⟨s,((3+6:Nat):Int)⟩⟩).o=_:=λp=>Qwa p s 9 (by omega) hs;by_cases c2:9+6<=s.size
 rotate_left
 ·simp only[if_neg c2] at f2;refine inr ?_ (no (by omega));unfold Xs;simp only[T.run,show (Z5.mk zg zg 0 0 0)=zB from rfl,f0,f1,f2]
 simp only[if_pos c2] at f2;have f3:∀p,(s88 ⟨p,⟨s,((9+6:Nat):Int)⟩⟩).o=_:=λp=>Qwx p s 15 (by omega) hs;by_cases c3:15+6<=s.size
 rotate_left
 ·simp only[if_neg c3] at f3;refine inr ?_ (no (by omega));unfold Xs;simp only[T.run,show (Z5.mk zg zg 0 0 0)=zB from rfl,f0,f1,f2,f3]
 simp only[if_pos c3] at f3;have f4:∀p,(s89 ⟨p,⟨s,((15+6:Nat):Int)⟩⟩).o=_:=λp=>Qwo p s (by omega) hs;by_cases c4:22+Hr s<=s.size
 rotate_left
 ·simp only[if_neg c4] at f4;refine inr ?_ (no (by omega));unfold Xs;simp only[T.run,show (Z5.mk zg zg 0 0 0)=zB from rfl,f0,f1,f2,f3,f4]
 simp only[if_pos c4] at f4;have f5:∀p,(s90 ⟨p,⟨s,((22+Hr s:Nat):Int)⟩⟩).o=_:=λp=>Qay p s (22+Hr s) (by omega) hs;by_cases c5:22+Hr s+32<=s.size
 rotate_left
 ·simp only[if_neg c5] at f5;refine inr ?_ (no (by omega));unfold Xs;simp only[T.run,show (Z5.mk zg zg 0 0 0)=zB from rfl,f0,f1,f2,f3,f4,f5]
 simp only[if_pos c5] at f5;have f6:=(MV (Zj s)).eq;have em:Z5.mk (s.extract 22 (22+Hr s)) (s.extract (22+Hr s) (22+Hr s+32)) (num (Q3 (s.extract 9 (9+6)))) (num (Q3 (s.extract 15 (15+6)))) (num (Q3 (s.extract 3 (3+6))))=Zj s:=by
  grind [Zj,Hr]
 have run:(Xs s).run=some (.inl (oL (Ut s))):=by
  unfold Xs;simp only[T.run,show (Z5.mk zg zg 0 0 0)=zB from rfl,f0,f1,f2,f3,f4,f5,em,f6];by_cases c6:s.size=54+Hr s
  ·rw[Qzc (show 22+Hr s+32=s.size by omega)];have eo:okB s=G5 (Zj s):=by
    grind [decide_eq_true,okB]
   unfold Ut;rw[eo];cases G5 (Zj s) with
   | true=>simp_all [cond_false,Bool.not_true,cond_true,oL,Zj,Hr]
   | false=>rfl
  ·rw[nX (show 22+Hr s+32≠s.size by omega)];have eo:okB s=false:=by grind [decide_eq_false,okB]
   rw[bad eo];rfl
 grind [bS]
theorem Dq(s:ze)(hs:s.size<=1000000):Qj (s46 s) (λr=>r=Ut s):=by
 refine⟨Ut s,?_,rfl⟩;show (bS s).map _=_;rw[Quh s hs];rfl
end Go.Proofs.YtjdieimefebnfaaGreatDoor
