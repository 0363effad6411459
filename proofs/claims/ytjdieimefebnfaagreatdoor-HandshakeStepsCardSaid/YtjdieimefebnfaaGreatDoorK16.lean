/- Badges of the program: which are valid. Octets that are too few; what is trimmed. Badges of the program: their octets, written and read. The digest o ..; no conditions. -/
import Derived.Test.YtjdieimefebnfaaGreatDoorK9
import Derived.Test.YtjdieimefebnfaaGreatDoorK15
import Derived.Test.YtjdieimefebnfaaGreatDoorK11
import Derived.Test.YtjdieimefebnfaaGreatDoorK13
import Derived.Test.YtjdieimefebnfaaGreatDoorK10
import Derived.Test.YtjdieimefebnfaaGreatDoorK7
import Derived.Test.YtjdieimefebnfaaGreatDoorK14
import Derived.Test.YtjdieimefebnfaaGreatDoorK5
import Derived.KernelRfl
set_option linter.unusedVariables false
set_option linter.unusedSimpArgs false
set_option maxRecDepth 100000
namespace Go.Proofs.YtjdieimefebnfaaGreatDoor
open Go Go.EV
def WM(c:Int):Bool:=(decide (97<=c)&&decide (c<=122)) || ((decide (65<=c)&&decide (c<=90)) || (decide (48<=c)&&decide (c<=57)))
def KF(c:Int):Bool:=c==46 || c==45
def B8(c:Int):Bool:=WM c || KF c
theorem PY(c:Int)(h:B8 c=true):WM c=true↔KF c=false:=by
 unfold B8 at h
 unfold WM KF at *
 grind
theorem qC(c:Int):Qz (dD c) (λr=>r=B8 c):=by
 unfold dD
 refine Qz.fn ?_
 unfold Qu4
 refine Ok.n (R:=λr=>r=B8 c) ?_ λr hr=>Ok.d hr
 unfold B8 WM KF
 repeat' grind [Ok.e,Ok.d]
 all_goals grind
theorem SP(x:Int)(h:0<=x/\x < 256):Qz (eS x) (λc=>c=KF x):=by
 unfold eS
 refine Qz.fn ?_
 unfold Qyd
 obtain⟨n,rfl⟩:=Int.eq_ofNat_of_zero_le h.1
 have hn:n < 256:=by omega
 refine Ok.Yi ?_ ?_
 ·have:∀n:Fin 256,([0,1,2,3,4,5,6,7,8,9,10,11,12,13,14,15,16,17,18,19,20,21,22,23,24,25,26,27,28,29,30,31,32,33,34,35,36,37,38,39,40,41,42,43,44,45,46,47,48,49,50,51,52,53,54,55,56,57,58,59,60,61,62,63,64,65,66,67,68,69,70,71,72,73,74,75,76,77,78,79,80,81,82,83,84,85,86,87,88,89,90,91,92,93,94,95,96,97,98,99,100,101,102,103,104,105,106,107,108,109,110,111,112,113,114,115,116,117,118,119,120,121,122,123,124,125,126,127,128,129,130,131,132,133,134,135,136,137,138,139,140,141,142,143,144,145,146,147,148,149,150,151,152,153,154,155,156,157,158,159,160,161,162,163,164,165,166,167,168,169,170,171,172,173,174,175,176,177,178,179,180,181,182,183,184,185,186,187,188,189,190,191,192,193,194,195,196,197,198,199,200,201,202,203,204,205,206,207,208,209,210,211,212,213,214,215,216,217,218,219,220,221,222,223,224,225,226,227,228,229,230,231,232,233,234,235,236,237,238,239,240,241,242,243,244,245,246,247,248,249,250,251,252,253,254,255]:List Int).contains ((n.val:Nat):Int)=true:=by decide
  exact this ⟨n,hn⟩
 ·cases hb:([45,46]:List Int).contains (n:Int) with
  | true=>
   refine Ok.d ?_
   simp only[List.contains_cons,List.contains_nil,Bool.or_false,zU,beq_iff_eq] at hb
   grind [KF]
  | false=>
   simp_all [Ok.d,List.contains_cons,List.contains_nil,Bool.or_false,Bool.or_eq_false_iff,wQ,ne_eq,KF]
theorem yM(s:za)(hs:s.size<=1000):Qz (rY s) (λr=>r.size<=s.size/\(0 < s.size->(KF (QZ s ((s.size - 1:Nat):Int))=false->r=s)/\(KF (QZ s ((s.size - 1:Nat):Int))=true->r.size < s.size))):=by
 unfold rY
 refine Qz.fn ?_
 unfold Qj8
 refine Ok.b (R:=λr=>r.size<=s.size/\(0 < s.size->(KF (QZ s ((s.size - 1:Nat):Int))=false->r=s)/\(KF (QZ s ((s.size - 1:Nat):Int))=true->r.size < s.size))) ?_ λe he=>Ok.d he
 refine Ok.lp (λy=>y=s\/(y.size < s.size/\KF (QZ s ((s.size - 1:Nat):Int))=true)) (λy=>y.size) (.inl rfl) (I1 (by grind)) λy hy=>?_
 have hle:y.size<=s.size:=by grind
 refine Ok.e (λh=>?_) λh=>Ok.d ?_
 ·have h0:0 < y.size:=by simpa using h
  have e1:Q0 ((y.size:Int) - 1)=((y.size - 1:Nat):Int):=by grind [Z3]
  rw[e1]
  refine Ok.k (by simp;omega) (Ok.c (SP _ (I4 _ _)) λc hc=>?_)
  subst hc
  refine Ok.e (λh1=>Ok.d ?_) λh1=>Ok.k (by simp) (Ok.d ?_)
  ·have h1:KF (QZ y ((y.size - 1:Nat):Int))=false:=by simpa using h1
   refine⟨hle,λ_=>?_⟩
   grind
  ·have h1:KF (QZ y ((y.size - 1:Nat):Int))=true:=by simpa using h1
   have hz:(y.extract 0 ((y.size - 1:Nat):Int).toNat).size=y.size - 1:=by simp_all
   refine And.intro (.inr ⟨by omega,?_⟩) (by grind)
   grind
 ·have h0:¬0 < y.size:=by simpa using h
  refine⟨hle,λhp=>?_⟩
  grind
theorem yE(s:za)(hs:s.size<=1000):Qz (rJ s) (λr=>r.size<=s.size/\(0 < s.size->(KF (QZ s 0)=false->r=s)/\(KF (QZ s 0)=true->r.size < s.size))):=by
 unfold rJ
 refine Qz.fn ?_
 unfold Qj9
 refine Ok.b (R:=λr=>r.size<=s.size/\(0 < s.size->(KF (QZ s 0)=false->r=s)/\(KF (QZ s 0)=true->r.size < s.size))) ?_ λe he=>Ok.d he
 refine Ok.lp (λy=>y=s\/(y.size < s.size/\KF (QZ s 0)=true)) (λy=>y.size) (.inl rfl) (I1 (by grind)) λy hy=>?_
 have hle:y.size<=s.size:=by grind
 refine Ok.e (λh=>?_) λh=>Ok.d ?_
 ·have h0:0 < y.size:=by simpa using h
  refine Ok.k (by simp;omega) (Ok.c (SP _ (I4 _ _)) λc hc=>?_)
  subst hc
  refine Ok.e (λh1=>Ok.d ?_) λh1=>Ok.k (by simp;omega) (Ok.d ?_)
  ·have h1:KF (QZ y 0)=false:=by simpa using h1
   refine⟨hle,λ_=>?_⟩
   grind
  ·have h1:KF (QZ y 0)=true:=by simpa using h1
   have hz:(y.extract 1 y.size).size=y.size - 1:=by simp_all
   refine And.intro (.inr ⟨by omega,?_⟩) (by grind)
   grind
 ·have h0:¬0 < y.size:=by simpa using h
  refine⟨hle,λhp=>?_⟩
  grind
theorem aW(s:za)(h0:0 < s.size)(hs:s.size<=1000):Qz (pZ s) (λr=>decide (r=s)=(!KF (QZ s 0)&&!KF (QZ s ((s.size - 1:Nat):Int)))):=by
 unfold pZ
 refine Qz.fn ?_
 unfold Qu5
 refine Ok.n (R:=λc=>c=false) (Ok.f (wB λe=>by simp_all) (Ok.d rfl)) λc hc=>?_
 subst hc
 refine Ok.f rfl (Ok.ff (Ok.c (R:=λ_=>True) ⟨(),by rfl,trivial⟩ λ_ _=>Ok.tt (Ok.v (yM s hs) λr1 h1=>Ok.v (yE r1 (by omega)) λr2 h2=>Ok.d ?_)))
 grind
theorem kF{s:za}{k:Nat}(h:k < s.size):(CP s (k:Int)).run=some (some (QZ s (k:Int))):=by
 grind [decide_eq_true,CP,T.run]
theorem Sj{s:za}{k:Nat}(h:k=s.size):(CP s (k:Int)).run=some none:=by
 grind [decide_eq_false,CP,T.run]
theorem bB(b:Z5)(s:za)(hs:s.size<=1000):∃e,mVa b s=some e/\(match e with|.inl _=>(Q3 s).all B8=true|.inr _=>(Q3 s).all B8=false):=by
 refine Ef s.size (by omega) (λk y=>y.2=(k:Int)/\∀i,i < k->B8 (QZ s (i:Int))=true) (by grind) (λk y hy hk=>?_) λy hy=>?_
 ·obtain⟨y1,y2⟩:=y
  obtain⟨h1,h2⟩:=hy
  simp only at h1
  subst h1
  have hl:=(qC (QZ s (k:Int))).eq
  have ea:(CF b s (QZ s (k:Int))).run=(bif !B8 (QZ s (k:Int)) then none else some ()):=by
   grind [CF,T.run]
  have eb:(CL b s (QZ s (k:Int))).run=(bif !B8 (QZ s (k:Int)) then some () else none):=by
   grind [CL,T.run]
  unfold Mq
  simp only[kF hk,ea,eb]
  cases hc:B8 (QZ s (k:Int)) with
  | true=>
   refine⟨.inl ((),Q0 ((k:Int)+1)),rfl,Z8 hk (by omega),λi hi=>?_⟩
   grind
  | false=>
   refine⟨.inr (.inr ()),rfl,?_⟩
   grind [MF,Q3,B8]
 ·obtain⟨y1,y2⟩:=y
  obtain⟨h1,h2⟩:=hy
  simp only at h1
  subst h1
  unfold Mq
  simp only[Sj rfl]
  exact⟨.inl (),rfl,MF.2 h2⟩
def R5(n:za):Bool:=decide (1<=n.size)&&(decide (n.size<=32)&&((Q3 n).all B8&&(WM (QZ n 0)&&WM (QZ n ((n.size - 1:Nat):Int)))))
def O7(b:Z5):Bool:=R5 b.fA&&(decide (b.fL.size=32)&&(decide (0<=b.fG)&&(decide (b.fG<=b.fH)&&(decide (b.fH<=1099511627776)&&(decide (0<=b.fO)&&decide (b.fO<=281474976710655))))))
theorem Au{n:za}(h0:1<=n.size)(h:n.size<=32):R5 n=((Q3 n).all B8&&(!KF (QZ n 0)&&!KF (QZ n ((n.size - 1:Nat):Int)))):=by
 grind [decide_eq_true,PY,MF,Int.ofNat_zero,R5,Q3,B8]
theorem Mg(b:Z5):Qz (IE b) (λr=>r=O7 b):=by
 unfold IE
 refine Qz.fn ?_
 unfold lO
 refine Ok.n (R:=λc=>(c=true->R5 b.fA=false)/\(c=false->1<=b.fA.size/\b.fA.size<=32/\(!KF (QZ b.fA 0)&&!KF (QZ b.fA ((b.fA.size - 1:Nat):Int)))=true)) ?_ λc hc=>?_
 ·refine Ok.e (λh=>Ok.d ⟨λ_=>?_,λh=>(by cases h)⟩) λh=>Ok.e (λh2=>Ok.d ⟨λ_=>?_,λh=>(by cases h)⟩) λh2=>?_
  ·grind [decide_eq_false,R5]
  ·grind [decide_eq_false,R5]
  ·have h0:1<=b.fA.size:=by grind
   have h1:b.fA.size<=32:=by grind
   refine Ok.c (aW b.fA (by omega) (by omega)) λr hr=>Ok.d ⟨λhc=>?_,λhc=>⟨h0,h1,?_⟩⟩
   ·rw[hr] at hc
    rw[Au h0 h1,(by grind:(!KF (QZ b.fA 0)&&!KF (QZ b.fA ((b.fA.size - 1:Nat):Int)))=false),Bool.and_false]
   grind
 ·refine Ok.e (λh=>Ok.d ?_) λh=>?_
  ·grind [O7]
  ·obtain⟨h0,h1,h2⟩:=hc.2 h
   refine Ok.c (R:=λ_=>True) ⟨(),by rfl,trivial⟩ λ_ _=>Ok.g ?_
   obtain⟨e,m1,m2⟩:=bB b b.fA (by omega)
   refine Ok.oS (R:=λe=>match e with|.inl _=>(Q3 b.fA).all B8=true|.inr _=>(Q3 b.fA).all B8=false) (x:=e) m1 (by grind) (λr hr=>?_) λr hr=>Ok.d ?_
   ·have hn:R5 b.fA=true:=by grind [Au]
    unfold O7
    rw[hn]
    simp only[Bool.true_and]
    repeat' first
     | refine Ok.e (λh=>?_) (λh=>?_)
     | refine Ok.d ?_
    all_goals simp_all
    all_goals omega
   grind [Au,O7,Q3,B8]
theorem xW(s:za)(a n:Nat)(ha:a<=s.size)(h:s.size < a+n)(hn:1<=n)(hn7:n<=7)(hs:s.size<=1000000):Qz (VJ ⟨s,a⟩ (n:Int)) (λr=>r.2.2=7):=by
 unfold VJ
 refine Qz.fn ?_
 refine Ok.c (R:=λr=>r.2.2=7) ?_ λr hr=>Ok.d hr
 unfold nL
 refine Qz.fn ?_
 unfold cT
 refine Ok.c (Lf s a ha) λr hr=>?_
 subst hr
 refine Ok.f rfl ?_
 refine Ok.n (R:=λc=>c=false) ?_ λc hc=>?_
 ·refine Ok.f (by simp;omega) (Ok.d ?_)
  simp;omega
 ·subst hc
  have e1:Q0 ((s.size:Int) - (a:Int))=(s.size:Int) - a:=Z3 (by omega) (by omega)
  refine Ok.f rfl (Ok.t ?_ (Ok.d rfl))
  show decide (Q0 ((s.size:Int) - (a:Int)) < (n:Int))=true
  rw[e1];simp;omega
theorem xM(s:za)(a n:Nat)(ha:a<=s.size)(h:s.size < a+n)(hs:s.size<=1000000):Qz (VU ⟨s,a⟩ (n:Int)) (λr=>r.2.2=7):=by
 unfold VU
 refine Qz.fn ?_
 unfold tE
 have em:(if (0:Int) > (n:Int) then (0:Int) else (n:Int))=n:=by rw[if_neg (by omega)]
 rw[em]
 refine Ok.c (R:=λr=>r.2.2=7) ?_ λr hr=>Ok.d hr
 unfold nG
 refine Qz.fn ?_
 unfold cV
 refine Ok.c (Lf s a ha) λr hr=>?_
 subst hr
 refine Ok.f rfl ?_
 refine Ok.n (R:=λc=>c=false) ?_ λc hc=>?_
 ·refine Ok.f (by simp) (Ok.d ?_)
  simp
 ·subst hc
  have e1:Q0 ((s.size:Int) - (a:Int))=(s.size:Int) - a:=Z3 (by omega) (by omega)
  refine Ok.f rfl (Ok.t ?_ (Ok.d rfl))
  show decide (Q0 ((s.size:Int) - (a:Int)) < (n:Int))=true
  rw[e1];simp;omega
def Zg(n:Nat)(v:Int):za:=strOfNums (YJ n v)
theorem B4(n:Nat)(v:Int):(Zg n v).size=n:=by unfold Zg;rw[W4,UQ]
def Fv:za:=bs [102,100,1]
theorem Nq:Fv.size=3:=rfl
def X8(b:Z5):za:=Fv++Zg 6 b.fO++Zg 6 b.fG++Zg 6 b.fH++Zg 1 (b.fA.size:Int)++b.fA++b.fL
theorem N6{n:za}(h:R5 n=true):1<=n.size/\n.size<=32:=by
 simp_all [zD,zC,R5]
theorem G0{b:Z5}(h:O7 b=true):R5 b.fA=true/\b.fL.size=32/\0<=b.fG/\b.fG<=b.fH/\b.fH<=1099511627776/\0<=b.fO/\b.fO<=281474976710655:=by
 simp_all [zD,zC,O7]
theorem Wv{b:Z5}(h:O7 b=true):(X8 b).size=54+b.fA.size:=by
 grind [G0,ByteArray.size_append,B4,Nq,X8]
theorem sR(v:Int)(h0:0<=v)(h:v < 281474976710656):Qz (nN 6 v) (λr=>r=(strOfNums (YJ 6 v),0)):=
 Qz9 h0 (by rw[B5 v _ (by decide)];simp;omega) (show (tQ 6 v).run=(bif decide (v < 0) then some (zd,2) else bif (Z4 .i64 v ((8 * 6:Nat):Int) != 0) then some (zd,6) else some (strOfNums [Qm (Z4 .i64 v ((40:Nat):Int)),Qm (Z4 .i64 v ((32:Nat):Int)),Qm (Z4 .i64 v ((24:Nat):Int)),Qm (Z4 .i64 v ((16:Nat):Int)),Qm (Z4 .i64 v ((8:Nat):Int)),Qm (Z4 .i64 v ((0:Nat):Int))],0)) by kernel_rfl)
  (by simp only[N3,B5 _ _ (show 0<=64 by decide),B5 _ _ (show 8<=64 by decide),B5 _ _ (show 16<=64 by decide),B5 _ _ (show 24<=64 by decide),B5 _ _ (show 32<=64 by decide),B5 _ _ (show 40<=64 by decide),YJ,List.nil_append,List.cons_append,Int.pow_zero,Int.ediv_one,List.cons.injEq,and_true];omega)
theorem Lv(v:Int)(h0:0<=v)(h:v < 281474976710656):Qz (Ge 6 v) (λr=>r=Zg 6 v):=by
 unfold Ge
 refine Qz.fn ?_
 unfold tD
 exact Ok.c (sR v h0 h) λr hr=>Ok.d (by rw[hr];rfl)
theorem aK(v:Int)(h0:0<=v)(h:v < 256):Qz (Ge 1 v) (λr=>r=Zg 1 v):=by
 unfold Ge
 refine Qz.fn ?_
 unfold tD
 exact Ok.c (sP v h0 h) λr hr=>Ok.d (by rw[hr];rfl)
theorem LQ(b:Z5):Qz (VM b) (λr=>r=if O7 b then (X8 b,0) else (zd,180)):=by
 unfold VM
 refine Qz.fn ?_
 unfold Qu9
 refine Ok.c (Mg b) λr hr=>?_
 subst hr
 refine Ok.e (λh=>Ok.d ?_) λh=>?_
 ·grind
 ·have hv:O7 b=true:=by simpa using h
  obtain⟨h1,h2,h3,h4,h5,h6,h7⟩:=G0 hv
  obtain⟨z1,z2⟩:=N6 h1
  rw[if_pos hv]
  refine Ok.c (Lv b.fO h6 (by omega)) λr1 e1=>Ok.k ?_ (Ok.c (Lv b.fG h3 (by omega)) λr2 e2=>Ok.k ?_ (Ok.c (Lv b.fH (by omega) (by omega)) λr3 e3=>Ok.k ?_ (Ok.c (aK (b.fA.size:Int) (by omega) (by omega)) λr4 e4=>Ok.k ?_ (Ok.k ?_ (Ok.k ?_ (Ok.d ?_))))))
  all_goals subst_vars
  iterate 6
   ·simp only[ByteArray.size_append,B4,zC,show (bs [102,100,1]).size=3 from rfl,h2];omega
  ·rfl
def zB:Z5:=⟨zd,zd,0,0,0⟩
def UI(s:za):Nat:=(QZ s 21).toNat
def Zo(s:za):Z5:=⟨s.extract 22 (22+UI s),s.extract (22+UI s) (54+UI s),num (Q3 (s.extract 9 15)),num (Q3 (s.extract 15 21)),num (Q3 (s.extract 3 9))⟩
def okB(s:za):Bool:=decide (22<=s.size)&&(decide (s.size=54+UI s)&&(decide (s.extract 0 3=Fv)&&O7 (Zo s)))
def YK(s:za):Z5×Int:=bif okB s then (Zo s,0) else (zB,5)
theorem DR(e:Int):(rU e).o=some (bif e != 0 then .inr () else .inl ()):=by
 show (tM e).run=_
 unfold tM
 simp only[T.run]
 cases (e != 0)<;>rfl
theorem TC(p:Z5)(s:za)(a n:Nat)(ha:a<=s.size)(hs:s.size<=1000000) :
  (VK (n:Int) ⟨p,⟨s,a⟩⟩).o=some (if a+n<=s.size then .inl (s,((a+n:Nat):Int),s.extract a (a+n)) else .inr ()):=by
 show (tS (n:Int) ⟨p,⟨s,a⟩⟩).run=_
 unfold tS
 by_cases h:a+n<=s.size
 ·have h1:=(sA s a n h hs).eq
  simp_all [DR,if_pos,T.run]
 ·obtain⟨r,h1,h2⟩:=xM s a n ha (by omega) hs
  simp_all [DR,if_neg,T.run]
theorem Sg(p:Z5)(s:za)(a n:Nat)(ha:a<=s.size)(hn:1<=n)(hn7:n<=7)(hs:s.size<=1000000) :
  (Cm (n:Int) ⟨p,⟨s,a⟩⟩).o=some (if a+n<=s.size then .inl (s,((a+n:Nat):Int),num (Q3 (s.extract a (a+n)))) else .inr ()):=by
 show (tR (n:Int) ⟨p,⟨s,a⟩⟩).run=_
 unfold tR
 by_cases h:a+n<=s.size
 ·have h1:=(sX s a n h hn hn7 hs).eq
  simp_all [DR,if_pos,T.run]
 ·obtain⟨r,h1,h2⟩:=xW s a n ha (by omega) hn hn7 hs
  simp_all [DR,if_neg,T.run]
theorem bX{s:za}{a:Nat}(h:a < s.size):num (Q3 (s.extract a (a+1)))=QZ s (a:Int):=by
 have e:Q3 (s.extract a (a+1))=[QZ s (a:Int)]:=by
  refine List.ext_getElem? λi=>?_
  have hz:(s.extract a (a+1)).size=1:=by rw[ByteArray.size_extract];omega
  by_cases hi:i < 1
  ·obtain rfl:i=0:=by omega
   grind [T8,DV]
  grind [List.getElem?_eq_none,D7]
 grind [num]
theorem nQ(s:za)(hs:s.size<=1000000):(s85 ⟨zB,⟨s,0⟩⟩).o=some (if 3<=s.size/\s.extract 0 3=Fv then .inl (s,3) else .inr ()):=by
 show (g85 ⟨zB,⟨s,0⟩⟩).run=_
 unfold g85
 have h1:(VK 3 ⟨zB,⟨s,0⟩⟩).o=some (if 0+3<=s.size then .inl (s,3,s.extract 0 3) else .inr ()):=TC zB s 0 3 (by omega) hs
 simp only[T.run,h1]
 by_cases h:0+3<=s.size
 ·rw[if_pos h]
  by_cases h2:s.extract 0 3=Fv
  ·rw[if_pos ⟨by omega,h2⟩,h2]
   rfl
  ·rw[if_neg (λq=>h2 q.2)]
   simp only[show (decide (s.extract 0 3=bs [102,100,1]))=false from wB h2]
   rfl
 grind
theorem Qkr(p:Z5)(s:za)(a:Nat)(ha:a<=s.size)(hs:s.size<=1000000):(s86 ⟨p,⟨s,a⟩⟩).o=some (if a+6<=s.size then .inl (num (Q3 (s.extract a (a+6))),s,((a+6:Nat):Int)) else .inr ()):=by
 show (g86 ⟨p,⟨s,a⟩⟩).run=_
 unfold g86
 have h1:=Sg p s a 6 ha (by decide) (by decide) hs
 simp only[show ((6:Nat):Int)=6 from rfl] at h1
 simp only[T.run,h1]
 by_cases h:a+6<=s.size
 ·grind
 grind
theorem Qzi(p:Z5)(s:za)(a:Nat)(ha:a<=s.size)(hs:s.size<=1000000):(s87 ⟨p,⟨s,a⟩⟩).o=some (if a+6<=s.size then .inl (num (Q3 (s.extract a (a+6))),s,((a+6:Nat):Int)) else .inr ()):=by
 show (g87 ⟨p,⟨s,a⟩⟩).run=_
 unfold g87
 have h1:=Sg p s a 6 ha (by decide) (by decide) hs
 simp only[show ((6:Nat):Int)=6 from rfl] at h1
 simp only[T.run,h1]
 by_cases h:a+6<=s.size
 ·grind
 grind
theorem Qza(p:Z5)(s:za)(a:Nat)(ha:a<=s.size)(hs:s.size<=1000000):(s88 ⟨p,⟨s,a⟩⟩).o=some (if a+6<=s.size then .inl (num (Q3 (s.extract a (a+6))),s,((a+6:Nat):Int)) else .inr ()):=by
 show (g88 ⟨p,⟨s,a⟩⟩).run=_
 unfold g88
 have h1:=Sg p s a 6 ha (by decide) (by decide) hs
 simp only[show ((6:Nat):Int)=6 from rfl] at h1
 simp only[T.run,h1]
 by_cases h:a+6<=s.size
 ·grind
 grind
theorem Qzf(p:Z5)(s:za)(ha:21<=s.size)(hs:s.size<=1000000):(s89 ⟨p,⟨s,21⟩⟩).o=some (if 22+UI s<=s.size then .inl (s.extract 22 (22+UI s),s,((22+UI s:Nat):Int)) else .inr ()):=by
 show (g89 ⟨p,⟨s,21⟩⟩).run=_
 unfold g89
 have h1:(Cm 1 ⟨p,⟨s,21⟩⟩).o=_:=Sg p s 21 1 ha (by decide) (by decide) hs
 simp only[T.run,h1]
 by_cases h:21+1<=s.size
 ·rw[if_pos h]
  have hb:=I4 s 21
  have e:num (Q3 (s.extract 21 (21+1)))=(UI s:Int):=by
   grind [bX,UI,QZ]
  have h2:=TC p s 22 (UI s) (by omega) hs
  grind
 grind
theorem Qks(p:Z5)(s:za)(a:Nat)(ha:a<=s.size)(hs:s.size<=1000000):(s90 ⟨p,⟨s,a⟩⟩).o=some (if a+32<=s.size then .inl (s.extract a (a+32),s,((a+32:Nat):Int)) else .inr ()):=by
 show (g90 ⟨p,⟨s,a⟩⟩).run=_
 unfold g90
 have h1:=TC p s a 32 ha hs
 simp only[show ((32:Nat):Int)=32 from rfl] at h1
 simp only[T.run,h1]
 by_cases h:a+32<=s.size
 ·grind
 grind
theorem bF{a b:Nat}(h:a=b):(((a:Nat):Int) != (b:Int))=false:=by subst h;simp
theorem aA{a b:Nat}(h:a≠b):(((a:Nat):Int) != (b:Int))=true:=by simp;omega
def eW(r:Z5×Int):Sw:=(r.1.fA,r.1.fL,r.1.fG,r.1.fH,r.1.fO,r.2)
set_option maxHeartbeats 2000000 in
theorem vP(s:za)(hs:s.size<=1000000):gQ s=some (eW (YK s)):=by
 have bad:okB s=false->YK s=(zB,5):=(by grind [YK])
 have inr:(DY s).run=some (.inr ())->okB s=false->gQ s=some (eW (YK s)):=λh h2=>by
  unfold gQ;rw[h,bad h2];rfl
 have no:¬(54+UI s<=s.size)->okB s=false:=(by grind [decide_eq_false,okB,UI])
 have e3:((3:Nat):Int)=3:=rfl
 have f0:=nQ s hs
 by_cases c0:3<=s.size/\s.extract 0 3=Fv
 rotate_left
 ·rw[if_neg c0] at f0
  refine inr ?_ ?_
  ·unfold DY;simp only[T.run,show (Z5.mk zd zd 0 0 0)=zB from rfl,f0]
  grind [decide_eq_false,okB]
 rw[if_pos c0] at f0
 have f1:(s86 ⟨zB,⟨s,3⟩⟩).o=_:=Qkr zB s 3 (by omega) hs
 by_cases c1:3+6<=s.size
 rotate_left
 ·rw[if_neg c1] at f1
  refine inr ?_ (no (by omega))
  unfold DY;simp only[T.run,show (Z5.mk zd zd 0 0 0)=zB from rfl,f0,f1]
 rw[if_pos c1] at f1
 have f2:∀p,(s87 ⟨p,⟨s,((3+6:Nat):Int)⟩⟩).o=_:=λp=>Qzi p s 9 (by omega) hs
 by_cases c2:9+6<=s.size
 rotate_left
 ·simp only[if_neg c2] at f2
  refine inr ?_ (no (by omega))
  unfold DY;simp only[T.run,show (Z5.mk zd zd 0 0 0)=zB from rfl,f0,f1,f2]
 simp only[if_pos c2] at f2
 have f3:∀p,(s88 ⟨p,⟨s,((9+6:Nat):Int)⟩⟩).o=_:=λp=>Qza p s 15 (by omega) hs
 by_cases c3:15+6<=s.size
 rotate_left
 ·simp only[if_neg c3] at f3
  refine inr ?_ (no (by omega))
  unfold DY;simp only[T.run,show (Z5.mk zd zd 0 0 0)=zB from rfl,f0,f1,f2,f3]
 simp only[if_pos c3] at f3
 have f4:∀p,(s89 ⟨p,⟨s,((15+6:Nat):Int)⟩⟩).o=_:=λp=>Qzf p s (by omega) hs
 by_cases c4:22+UI s<=s.size
 rotate_left
 ·simp only[if_neg c4] at f4
  refine inr ?_ (no (by omega))
  unfold DY;simp only[T.run,show (Z5.mk zd zd 0 0 0)=zB from rfl,f0,f1,f2,f3,f4]
 simp only[if_pos c4] at f4
 have f5:∀p,(s90 ⟨p,⟨s,((22+UI s:Nat):Int)⟩⟩).o=_:=λp=>Qks p s (22+UI s) (by omega) hs
 by_cases c5:22+UI s+32<=s.size
 rotate_left
 ·simp only[if_neg c5] at f5
  refine inr ?_ (no (by omega))
  unfold DY;simp only[T.run,show (Z5.mk zd zd 0 0 0)=zB from rfl,f0,f1,f2,f3,f4,f5]
 simp only[if_pos c5] at f5
 have f6:=(Mg (Zo s)).eq
 have em:Z5.mk (s.extract 22 (22+UI s)) (s.extract (22+UI s) (22+UI s+32)) (num (Q3 (s.extract 9 (9+6)))) (num (Q3 (s.extract 15 (15+6)))) (num (Q3 (s.extract 3 (3+6))))=Zo s:=by
  grind [Zo,UI]
 have run:(DY s).run=some (.inl (eW (YK s))):=by
  unfold DY
  simp only[T.run,show (Z5.mk zd zd 0 0 0)=zB from rfl,f0,f1,f2,f3,f4,f5,em,f6]
  by_cases c6:s.size=54+UI s
  ·rw[bF (show 22+UI s+32=s.size by omega)]
   have eo:okB s=O7 (Zo s):=by
    grind [decide_eq_true,okB]
   unfold YK
   rw[eo]
   cases O7 (Zo s) with
   | true=>simp_all [cond_false,Bool.not_true,cond_true,eW,Zo,UI]
   | false=>rfl
  ·rw[aA (show 22+UI s+32≠s.size by omega)]
   have eo:okB s=false:=by grind [decide_eq_false,okB]
   rw[bad eo];rfl
 grind [gQ]
theorem Ex(s:za)(hs:s.size<=1000000):Qz (s46 s) (λr=>r=YK s):=by
 refine⟨YK s,?_,rfl⟩
 show (gQ s).map _=_
 rw[vP s hs]
 rfl
def He(s:za):za:=Ip s vS
theorem R7(k s:za):(N7 k s).size=32:=C9 _ _ _
theorem Wu(s:za):(He s).size=32:=T6 _ _
def Fq(secret salt info:za):za:=N7 (N7 salt secret) (info++bs [1])
theorem Ya(a b c:za):(Fq a b c).size=32:=R7 _ _
theorem SG(s:za)(hs:s.size<=4096):Qz (s95 s) (λr=>r=(He s,0)):=by
 show Ok (g95 s) _
 unfold g95
 refine Ok.v (XB [s] (by simp) (by simpa using hs)) λr hr=>?_
 subst hr
 refine Ok.f rfl (Ok.c (Qz.o LK) λr hr=>?_)
 subst hr
 refine Ok.v (Lb vS [s] (by simp) (by simp;omega)) λr hr=>Ok.d ?_
 rw[hr,ME];rfl
theorem GK(a b c:za)(ha:a.size<=4096)(hb:b.size<=4096)(hc:c.size<=4096):Qz (s94 a b c 32) (λr=>r=(Fq a b c,0)):=by
 show Ok (g94 a b c 32) _
 unfold g94
 refine Ok.v (XB [a,b,c] (by simp) (by simp[ha,hb,hc])) λr hr=>?_
 subst hr
 refine Ok.f rfl (Ok.n (R:=λr=>r=false) (Ok.f rfl (Ok.d rfl)) λr hr=>?_)
 subst hr
 refine Ok.f rfl (Ok.c (Qz.o LK) λr hr=>?_)
 subst hr
 refine Ok.v (Lc vS b [a] (by omega) (by simp) (by simp;omega)) λp hp=>?_
 rw[ME] at hp
 have hz:p.size=32:=by rw[hp];exact C9 _ _ _
 refine Ok.b (R:=λe=>e=Ax vS p (c++bs [1])) ?_ λe he=>?_
 ·refine Ok.s 1 (by decide) (λk y=>y.2.2=(k:Int)+1/\(k=0->y.1=zd/\y.2.1=zd)/\(k=1->y.2.1=Ax vS p (c++bs [1]))) ⟨rfl,λ_=>⟨rfl,rfl⟩,λh=>by cases h⟩ (λk y hy hk=>?_) λy hy=>?_
  ·obtain⟨h1,h2,h3⟩:=hy
   obtain rfl:k=0:=by omega
   obtain⟨e1,e2⟩:=h2 rfl
   obtain⟨y1,y2,y3⟩:=y
   simp only at h1 e1 e2
   subst h1 e1 e2
   refine Ok.t (by simp) (Ok.v (Lc vS p [zd,c,strOfNums [Qm 1]] (by omega) (by simp) (by simp[strOfNums_size];omega)) λr hr=>Ok.k ?_ (Ok.d ?_))
   ·simp only[hr,C9];decide
   ·refine⟨by rfl,λh=>(by cases h),λ_=>?_⟩
    show zd++r=_
    rw[hr]
    simp only[cat,ByteArray.empty_append,ByteArray.append_empty]
    rfl
  ·obtain⟨h1,h2,h3⟩:=hy
   refine Ok.f ?_ (Ok.d (h3 rfl))
   rw[h3 rfl,C9];rfl
 ·subst he
  refine Ok.k ?_ (Ok.d ?_)
  ·rw[C9];decide
  ·have e:(Ax vS p (c++bs [1])).extract 0 (32:Int).toNat=Ax vS p (c++bs [1]):=by
    have:=ByteArray.extract_zero_size (b:=Ax vS p (c++bs [1]))
    rw[C9] at this
    exact this
   rw[e,hp];rfl
def dgs:za:=bs [48,49,50,51,52,53,54,55,56,57,65,66,67,68,69,70]
def ZS:za:=bs [115,104,97,45,50,53,54,32]
def Mt(c:Int):Bool:=(decide (48<=c)&&decide (c<=57)) || (decide (65<=c)&&decide (c<=70))
def TQ(i:Nat)(c:Int):Bool:=if i % 3=2 then c==58 else Mt c
def YA(p:za):Bool:=decide (p.size=103)&&(decide (p.extract 0 8=ZS)&&(List.range 95).all λi=>TQ i (QZ p ((8+i:Nat):Int)))
def Tv(c:Int):Int:=QZ dgs (c / 16)
def Tt(c:Int):Int:=QZ dgs (c % 16)
def KL:List Int->List Int
 | []=>[]
 | [c]=>[Tv c,Tt c]
 | c :: d :: l=>Tv c :: Tt c :: 58 :: KL (d :: l)
def I7(s:za):za:=ZS++strOfNums (KL (Q3 s))
theorem Vv(l:List Int)(c:Int):KL (l++[c])=(if l=[] then [] else KL l++[58])++[Tv c,Tt c]:=by
 induction l with
 | nil=>rfl
 | cons x l ih=>
  cases l with
  | nil=>rfl
  | cons y l=>
   simp_all [if_neg,Tv,Tt,KL]
theorem iW:((List.range 256).all λn=>decide (firstIdx dgs ((n:Int)).toNat.toUInt8 < 0)==!Mt (n:Int))=true:=by kernel_rfl
theorem bZ(c:Int)(h:0<=c/\c < 256):Qz (RM dgs c) (λr=>decide (r < 0)=!Mt c):=by
 have h1:Qz (nD dgs c) (λr=>decide (r < 0)=!Mt c):=by
  unfold nD
  refine Qz.fn ?_
  unfold Qyw
  refine Ok.o (r:=()) rfl (Ok.d ?_)
  obtain⟨n,rfl⟩:=Int.eq_ofNat_of_zero_le h.1
  grind [List.all_eq_true,iW]
 grind [oF,Qz.fn,Ok.c,Ok.d,RM,Qj0]
theorem iI(i:Nat)(c:Int)(hc:0<=c/\c < 256)(s:za):(CR (i:Int) s c).run=(bif TQ i c then some (Q0 ((i:Int)+1)) else none)/\(CN (i:Int) s c).run=(bif TQ i c then none else some ()):=by
 obtain⟨r,h1,h2⟩:=bZ c hc
 have h1:(RM (bs [48,49,50,51,52,53,54,55,56,57,65,66,67,68,69,70]) c).o=some r:=h1
 have e:Int.tmod (i:Int) 3=((i % 3:Nat):Int):=by grind
 unfold CR CN TQ
 simp only[T.run,h1,e,h2]
 by_cases h3:i % 3=2
 ·grind
 grind
theorem bT(s:za)(hs:s.size<=1000):∃e,mFi 0 s=some e/\(match e with|.inl _=>((List.range s.size).all λi=>TQ i (QZ s (i:Int)))=true|.inr _=>((List.range s.size).all λi=>TQ i (QZ s (i:Int)))=false):=by
 refine Ef s.size (by omega) (λk y=>y=((k:Int),(k:Int))/\∀i,i < k->TQ i (QZ s (i:Int))=true) (by grind) (λk y hy hk=>?_) λy hy=>?_
 ·obtain⟨h1,h2⟩:=hy
  subst h1
  obtain⟨ea,eb⟩:=iI k (QZ s (k:Int)) (I4 _ _) s
  unfold Mz
  simp only[kF hk,ea,eb]
  cases hc:TQ k (QZ s (k:Int)) with
  | true=>
   refine⟨.inl (Q0 ((k:Int)+1),Q0 ((k:Int)+1)),rfl,by grind [Z8],λi hi=>?_⟩
   grind
  | false=>
   grind
 ·obtain⟨h1,h2⟩:=hy
  subst h1
  unfold Mz
  simp only[Sj rfl]
  exact⟨.inl _,rfl,zG.2 λi hi=>h2 i (by simpa using hi)⟩
theorem aY(s p:za):Qz (nS s p) (λr=>r=if p.size<=s.size/\s.extract 0 p.size=p then (s.extract p.size s.size,true) else (s,false)):=by
 have h1:Qz (s99 s p) (λr=>r=decide (p.size<=s.size/\s.extract 0 p.size=p)):=by
  unfold s99
  refine Qz.fn ?_
  unfold g99
  refine Ok.n (R:=λr=>r=decide (p.size<=s.size/\s.extract 0 p.size=p)) (Ok.e (λh=>Ok.k (by simp at h ⊢;omega) (Ok.d ?_)) λh=>Ok.d ?_) λr hr=>Ok.d hr
  ·grind
  grind
 have h2:Qz (nX s p) (λr=>r=if p.size<=s.size/\s.extract 0 p.size=p then (s.extract p.size s.size,true) else (s,false)):=by
  unfold nX
  refine Qz.fn ?_
  unfold Qyk
  refine Ok.c h1 λr hr=>?_
  subst hr
  refine Ok.e (λh=>Ok.d ?_) λh=>?_
  ·grind
  simp_all [if_pos,Ok.k,Ok.d,zL]
 grind [oF,Qz.fn,Ok.c,Ok.d,nS,Qj1]
theorem GH(p:za):Qz (Lz p) (λr=>r=YA p):=by
 unfold Lz
 refine Qz.fn ?_
 unfold jG
 refine Ok.c (aY p ZS) λr hr=>?_
 rw[show ZS.size=8 from rfl] at hr
 by_cases hk:8<=p.size/\p.extract 0 8=ZS
 rotate_left
 ·rw[if_neg hk] at hr
  subst hr
  refine Ok.n (R:=λc=>c=true) (Ok.t rfl (Ok.d rfl)) λc hc=>Ok.t hc (Ok.d ?_)
  grind [decide_eq_false,YA,ZS]
 ·rw[if_pos hk] at hr
  subst hr
  have hz:(p.extract 8 p.size).size=p.size - 8:=by simp_all
  refine Ok.n (R:=λc=>c=!decide (p.size=103)) (Ok.f rfl (Ok.d ?_)) λc hc=>?_
  ·grind
  ·subst hc
   refine Ok.e (λh=>Ok.d ?_) λh=>?_
   ·grind [decide_eq_false,YA]
   ·have h:p.size=103:=by simpa using h
    refine Ok.c (R:=λ_=>True) ⟨(),by rfl,trivial⟩ λ_ _=>Ok.g ?_
    obtain⟨e,m1,m2⟩:=bT (p.extract 8 p.size) (by omega)
    have hall:((List.range (p.extract 8 p.size).size).all λi=>TQ i (QZ (p.extract 8 p.size) (i:Int)))=YA p:=by
     unfold YA
     rw[zR h,zR (show p.extract 0 8=ZS from hk.2),hz,h]
     simp only[Bool.true_and]
     rw[Bool.eq_iff_iff,zG,zG]
     have e1:∀i:Nat,i < 95->QZ (p.extract 8 103) (i:Int)=QZ p ((8+i:Nat):Int):=(by grind [DV])
     refine⟨λq i hi=>?_,λq i hi=>?_⟩
     ·grind
     grind
    rw[hall] at m2
    clear hall
    have m1:(Ve 0 (p.extract 8 p.size)).o=some e:=by unfold Ve;exact m1
    generalize YA p=B at *
    generalize p.extract 8 p.size=q at *
    exact Ok.oS (R:=λe=>match e with|.inl _=>B=true|.inr _=>B=false) (x:=e) m1 (by grind) (by grind [Ok.d]) (by grind [Ok.d])
theorem bM(p:za):Qz (pN p) (λr=>(r==0)=YA p):=by
 grind [oF,Qz.fn,Ok.c,GH,Ok.e,Ok.d,pN,Qub,YA]
def Dt(c:Int):za:=strOfNums [Tv c,Tt c]
theorem xY(y:List za)(s:za)(c:Int)(hc:0<=c/\c < 256)(hl:y.length<=1000):(CG y s c).run=some (y++[Dt c]):=by
 have e1:Qm (Int.tdiv c 16)=c / 16:=by rw[N3,Int.tdiv_eq_ediv_of_nonneg hc.1];omega
 have e2:Int.tmod c 16=c % 16:=(by grind)
 unfold CG
 simp only[T.run,e1,e2,show (bs [48,49,50,51,52,53,54,55,56,57,65,66,67,68,69,70]).size=16 from rfl]
 rw[zR (show 0<=c / 16/\c / 16 < ((16:Nat):Int) by omega),zR (show 0<=c % 16/\c % 16 < ((16:Nat):Int) by omega),zR (by show (y.length+1) * 16<=_;omega)]
 rfl
theorem bC(s:za)(hs:s.size<=1000):mPr [] s=some (.inl ((Q3 s).map Dt)):=by
 have step:∀(k:Nat) (y:List za×Int),y=(((Q3 s).take k).map Dt,(k:Int))->k < s.size->∃r,Kx s y=some r/\Sum.elim (λy=>y=(((Q3 s).take (k+1)).map Dt,((k+1:Nat):Int))) (λe=>e=.inl ((Q3 s).map Dt)) r:=λk y hy hk=>by
  subst hy
  unfold Kx
  simp only[kF hk,xY _ s _ (I4 _ _) (show (((Q3 s).take k).map Dt).length<=1000 by simp;omega)]
  refine⟨_,rfl,?_⟩
  grind [Z8,List.take_add_one,T8]
 have last:∀y:List za×Int,y=(((Q3 s).take s.size).map Dt,(s.size:Int))->∃e,Kx s y=some (.inr e)/\e=.inl ((Q3 s).map Dt):=λy hy=>by
  subst hy
  unfold Kx
  simp only[Sj rfl]
  rw[List.take_of_length_le (by rw[D7];omega)]
  exact⟨_,rfl,rfl⟩
 obtain⟨e,h1,h2⟩:=Ef (f:=Kx s) (x0:=([],0)) s.size (by omega) (λk y=>y=(((Q3 s).take k).map Dt,(k:Int))) (by grind) step last
 rw[<-h2];exact h1
theorem iU(l:List Int):Q3 (WG (l.map Dt) (bs [58]))=KL l/\(WG (l.map Dt) (bs [58])).size<=3 * l.length:=by
 have rng:∀c,(0<=Tv c/\Tv c < 256)/\(0<=Tt c/\Tt c < 256):=λc=>⟨I4 _ _,I4 _ _⟩
 have p2:∀c,Q3 (Dt c)=[Tv c,Tt c]:=λc=>R4 (by
  grind)
 have key:Q3 (WG (l.map Dt) (bs [58]))=KL l:=by
  induction l with
  | nil=>rfl
  | cons c l ih=>
   cases l with
   | nil=>
    show Q3 ⟨(List.intercalate _ [(Dt c).data.toList]).toArray⟩=_
    rw[show List.intercalate (bs [58]).data.toList [(Dt c).data.toList]=(Dt c).data.toList by simp_all]
    exact p2 c
   | cons d l=>
    have e:WG ((c :: d :: l).map Dt) (bs [58])=Dt c++(bs [58]++WG ((d :: l).map Dt) (bs [58])):=by
     refine ByteArray.ext ?_
     simp[WG,Lib.join,List.intercalate,List.intersperse]
    rw[e,KQ,KQ,ih,p2]
    rfl
 refine⟨key,?_⟩
 rw[<-D7,key]
 clear key
 induction l with
 | nil=>simp[KL]
 | cons c l ih=>
  cases l with
  | nil=>simp[KL]
  | cons d l=>
   grind [List.length_cons,KL]
theorem GD(b:Z5)(hv:O7 b=true):Qz (SZ b) (λr=>r=I7 (He (X8 b))):=by
 unfold SZ
 refine Qz.fn ?_
 unfold lI
 have hz:=Wv hv
 obtain⟨n1,n2⟩:=N6 (G0 hv).1
 refine Ok.c (LQ b) λr1 h1=>?_
 rw[if_pos hv] at h1
 subst h1
 refine Ok.c (SG (X8 b) (by omega)) λr2 h2=>?_
 subst h2
 have hs:=Wu (X8 b)
 refine Ok.c (R:=λ_=>True) ⟨(),by rfl,trivial⟩ λ_ _=>Ok.g (Ok.g ?_)
 obtain⟨j1,j2⟩:=iU (Q3 (He (X8 b)))
 rw[D7,hs] at j2
 refine Ok.AB (r:=(Q3 (He (X8 b))).map Dt) (by show (match mPr [] (He (X8 b)) with|some (.inl r)=>some r|_=>none)=_;grind [bC]) (Ok.v (R:=λr=>r=WG ((Q3 (He (X8 b))).map Dt) (bs [58])) ?_ λr hr=>?_)
 ·refine⟨_,?_,rfl⟩
  show (iD _ _).run=_
  grind [decide_eq_true,D7,iD,T.run]
 ·have e:r=strOfNums (KL (Q3 (He (X8 b)))):=by rw[hr,<-j1,YO]
  subst e
  refine Ok.k ?_ (Ok.d rfl)
  rw[hr]
  rw[zC]
  show 8+_<=_
  omega
theorem B6{α:Type}{f:α->Bool}{l:List α}{k:Nat}{x:α}(h:l[k]?=some x)(h1:(l.take k).any f=false):(l.take (k+1)).any f=f x:=by
 grind [List.take_add_one]
theorem O4{α:Type}{f:α->Bool}{l:List α}{k:Nat}(h:(l.take k).any f=true):l.any f=true:=by
 grind
theorem bQ(l:List za)(hl:l.length<=100000):Qz (rL l) (λr=>decide (0<=r)=l.any λx=>!YA x):=by
 unfold rL
 refine Qz.fn ?_
 unfold Qjn
 refine Ok.p (R:=Sum.elim (λe=>0<=e/\(l.any λx=>!YA x)=true) (λ_=>(l.any λx=>!YA x)=false)) ?_ (by grind [Ok.d]) (by grind [Ok.d])
 refine Ok.s l.length (by omega) (λk y=>y=(k:Int)/\((l.take k).any λx=>!YA x)=false) ⟨rfl,rfl⟩ (λk y hy hk=>?_) λy hy=>?_
 ·obtain⟨rfl,h1⟩:=hy
  obtain⟨x,hx,hx'⟩:=E1 (l:=l) (k:=k) hk
  have h2:=B6 hx' h1
  have hb:Qz (nM x) (λr=>r=!YA x):=by
   grind [oF,Qz.fn,Ok.c,GH,Ok.d,nM,Qyy]
  grind [Ok.t,E3,Ok.r,Ok.c,Ok.e,Ok.d,O4,Z8]
 ·obtain⟨rfl,h1⟩:=hy
  grind [List.take_length,Ok.f,E3,Ok.d]
theorem xC(l:List za)(hl:l.length<=100000):Qz (RD l) (λr=>decide (0<=r)=l.any λx=>!decide (x.size=32)):=by
 unfold RD
 refine Qz.fn ?_
 unfold jR
 refine Ok.p (R:=Sum.elim (λe=>0<=e/\(l.any λx=>!decide (x.size=32))=true) (λ_=>(l.any λx=>!decide (x.size=32))=false)) ?_ (by grind [Ok.d]) (by grind [Ok.d])
 refine Ok.s l.length (by omega) (λk y=>y=(k:Int)/\((l.take k).any λx=>!decide (x.size=32))=false) ⟨rfl,rfl⟩ (λk y hy hk=>?_) λy hy=>?_
 ·obtain⟨rfl,h1⟩:=hy
  obtain⟨x,hx,hx'⟩:=E1 (l:=l) (k:=k) hk
  have h2:=B6 hx' h1
  have hb:Qz (rF x) (λr=>r=!decide (x.size=32)):=by
   unfold rF
   refine Qz.fn ?_
   unfold Qjr
   refine Ok.d ?_
   grind
  grind [Ok.t,E3,Ok.r,Ok.c,Ok.e,Ok.d,O4,Z8]
 ·obtain⟨rfl,h1⟩:=hy
  grind [List.take_length,Ok.f,E3,Ok.d]
theorem xB(l:List za)(hl:l.length<=100000):Qz (RE l) (λr=>decide (0<=r)=l.any λx=>!YA x):=by
 unfold RE
 refine Qz.fn ?_
 unfold jN
 refine Ok.p (R:=Sum.elim (λe=>0<=e/\(l.any λx=>!YA x)=true) (λ_=>(l.any λx=>!YA x)=false)) ?_ (by grind [Ok.d]) (by grind [Ok.d])
 refine Ok.s l.length (by omega) (λk y=>y=(k:Int)/\((l.take k).any λx=>!YA x)=false) ⟨rfl,rfl⟩ (λk y hy hk=>?_) λy hy=>?_
 ·obtain⟨rfl,h1⟩:=hy
  obtain⟨x,hx,hx'⟩:=E1 (l:=l) (k:=k) hk
  have h2:=B6 hx' h1
  have hb:Qz (pR x) (λr=>r=!YA x):=by
   grind [oF,Qz.fn,Ok.c,bM,Ok.d,pR,Quc]
  grind [Ok.t,E3,Ok.r,Ok.c,Ok.e,Ok.d,O4,Z8]
 ·obtain⟨rfl,h1⟩:=hy
  grind [List.take_length,Ok.f,E3,Ok.d]
theorem aU(l:List za)(hl:l.length<=100000):Qz (pP l) (λr=>r=l.any λx=>!YA x):=by
 grind [oF,Qz.fn,Ok.c,bQ,Ok.d,pP,Qut]
theorem yK(l:List za)(hl:l.length<=100000):Qz (RG l) (λr=>r=l.any λx=>!decide (x.size=32)):=by
 grind [oF,Qz.fn,Ok.c,xC,Ok.d,RG,jB]
theorem yW(l:List za)(hl:l.length<=100000):Qz (RL l) (λr=>r=l.any λx=>!YA x):=by
 grind [oF,Qz.fn,Ok.c,xB,Ok.d,RL,jS]
theorem DP{α:Type}(f:α->Bool)(l:List α):(!l.any λx=>!f x)=l.all f:=by grind
theorem Wo(l:List za)(hl:l.length<=100000):Qz (Cd l) (λr=>r=l.all λx=>decide (x.size=32)):=by
 grind [oF,Qz.fn,Ok.c,yK,Ok.d,DP,Cd,Quv]
theorem sV(l:List za)(p:za)(hl:l.length<=100000):Qz (s93 l p) (λr=>decide (r < 0)=!l.any λx=>decide (p=x)):=by
 unfold s93
 refine Qz.fn ?_
 unfold g93
 refine Ok.p (R:=Sum.elim (λe=>0<=e/\(l.any λx=>decide (p=x))=true) (λ_=>(l.any λx=>decide (p=x))=false)) ?_ (by grind [Ok.d]) (by grind [Ok.d])
 refine Ok.s l.length (by omega) (λk y=>y=(k:Int)/\((l.take k).any λx=>decide (p=x))=false) ⟨rfl,rfl⟩ (λk y hy hk=>?_) λy hy=>?_
 ·obtain⟨rfl,h1⟩:=hy
  grind [E1,B6,Ok.t,E3,Ok.r,Ok.e,Ok.d,O4,Z8]
 ·obtain⟨rfl,h1⟩:=hy
  grind [List.take_length,Ok.f,E3,Ok.d]
def CK(b:Z5)(l:List za):Int:=bif !O7 b then 180 else bif decide (8 < l.length) then 3 else bif (l.any λx=>!YA x) then 5 else bif (l.any λx=>decide (I7 (He (X8 b))=x)) then 0 else 4
def UP(b:Z5)(l:List za)(now:Int):Int:=bif CK b l != 0 then CK b l else bif decide (now < 0) || decide (1099511627776 < now) then 2 else bif decide (now < b.fG) || decide (b.fH < now) then 10 else 0
theorem yD(b:Z5)(l:List za):Qz (nE b l) (λr=>r.2=CK b l):=by
 unfold nE
 refine Qz.fn ?_
 unfold Qyj CK
 refine Ok.c (Mg b) λr hr=>?_
 subst hr
 refine Ok.e (λh=>Ok.d ?_) λh=>?_
 ·rw[h];rfl
 ·rw[h]
  have hv:O7 b=true:=by simpa using h
  refine Ok.e (λh=>Ok.d ?_) λh=>?_
  ·grind [E3,decide]
  grind [E3,Ok.c,aU,Ok.e,Ok.d,GD,sV,Bool.not_eq_true',Bool.not_eq_false',decide]
theorem bE(b:Z5)(l:List za)(now:Int):Qz (nI b l now) (λr=>r=UP b l now):=by
 unfold nI
 refine Qz.fn ?_
 unfold Qye UP
 refine Ok.c (yD b l) λr hr=>?_
 rw[hr]
 refine Ok.e (by grind [Ok.d]) λh=>?_
 rw[h]
 refine Ok.n (R:=λc=>c=(decide (now < 0) || decide (1099511627776 < now))) (by grind [Ok.e,Ok.d]) λc hc=>?_
 subst hc
 refine Ok.e (by grind [Ok.d]) λh=>?_
 rw[h]
 refine Ok.n (R:=λc=>c=(decide (now < b.fG) || decide (b.fH < now))) (by grind [Ok.e,Ok.d]) λc hc=>?_
 grind [Ok.e,Ok.d]
def S7(n:Qq):Bool:=decide (0<=n.fp)&&(decide (n.fp<=255)&&(decide (0<=n.fR)&&(decide (n.fR < 65536)&&decide ((n.fe.size:Int)<=4000))))
def N5(n:Int):Bool:=decide (0<=n)&&decide (n<=1099511627776)
def Hz(k:Int):Int:=if k=1 then 400 else if k=2 then 800 else if k=3 then 1600 else if k=4 then 3200 else 6400
def Uk(t:Z7):Bool:=bif t.fq==-1 then t.fV==0&&t.fM==0 else decide (0<=t.fq)&&(decide (1<=t.fM)&&(decide (t.fM<=8)&&t.fV==Hz t.fM))
def nY:Z7:=⟨-1,0,0⟩
def stZ:Z7:=⟨0,0,0⟩
def Rr(now:Int):Z7:=⟨now+400,400,1⟩
def Ub(t:Z7)(now:Int):Bool×Int:=bif !Uk t then (false,192) else bif !N5 now then (false,2) else (decide (0<=t.fq)&&decide (t.fq<=now),0)
def NI(t:Z7)(now:Int):Z7×Int:=bif (Ub t now).2 != 0 then (stZ,(Ub t now).2) else bif !(Ub t now).1 then (stZ,8) else bif t.fM==8 then (stZ,4) else (⟨now+Hz (t.fM+1),Hz (t.fM+1),t.fM+1⟩,0)
theorem JA(n m:Int):Qz (RN n m) (λr=>r=(decide (0<=n)&&decide (n<=m))):=by
 unfold RN
 refine Qz.fn ?_
 unfold Qh4
 refine Ok.n (R:=λr=>r=(decide (0<=n)&&decide (n<=m))) (Ok.e (by grind [Ok.d]) (by grind [Ok.d])) λr hr=>Ok.d hr
theorem GW(n:Qq):Qz (s58 n) (λr=>r=bif S7 n then 0 else 190):=by
 unfold s58
 refine Qz.fn ?_
 unfold g58
 refine Ok.n (R:=λc=>c=!S7 n) ?_ λc hc=>?_
 ·unfold S7
  refine Ok.c (JA _ _) λr hr=>Ok.e (λh=>Ok.d ?_) λh=>Ok.c (JA _ _) λr2 hr2=>Ok.e (λh2=>Ok.d ?_) λh2=>Ok.d ?_
  all_goals grind
 grind [Ok.e,Ok.d,S7]
theorem XG(n:Qq):Qz (dA n) (λr=>r=S7 n):=by
 unfold dA
 refine Qz.fn ?_
 unfold Quw
 refine Ok.n (R:=λc=>c=S7 n) ?_ λc hc=>Ok.d hc
 unfold S7
 repeat' first
  | refine Ok.e (λh=>?_) (λh=>?_)
  | refine Ok.d ?_
 all_goals grind
theorem SL(k:Int)(h:1<=k/\k<=8):Qz (rO k) (λr=>r=Hz k):=by
 have:k=1\/k=2\/k=3\/k=4\/k=5\/k=6\/k=7\/k=8:=by omega
 rcases this with rfl|rfl|rfl|rfl|rfl|rfl|rfl|rfl<;>exact⟨_,by kernel_rfl,by rfl⟩
theorem IB(k:Int)(h:1<=k/\k<=8):Qz (VE k) (λr=>r=Hz k):=by
 have:k=1\/k=2\/k=3\/k=4\/k=5\/k=6\/k=7\/k=8:=by omega
 have e:∀k v,(VE k).o=some v->v=Hz k->Qz (VE k) (λr=>r=Hz k):=λk v h1 h2=>⟨v,h1,h2⟩
 rcases this with rfl|rfl|rfl|rfl|rfl|rfl|rfl|rfl
 ·exact e 1 400 (by kernel_rfl) rfl
 ·exact e 2 800 (by kernel_rfl) rfl
 ·exact e 3 1600 (by kernel_rfl) rfl
 ·exact e 4 3200 (by kernel_rfl) rfl
 all_goals exact e _ 6400 (by kernel_rfl) rfl
theorem yY(t:Z7):Qz (dO t) (λr=>r=bif Uk t then 0 else 192):=by
 unfold dO
 refine Qz.fn ?_
 unfold Qup
 refine Ok.n (R:=λc=>c=!Uk t) ?_ λc hc=>?_
 ·unfold Uk
  cases ha:(t.fq==-1) with
  | true=>
   have h0:t.fq < 0:=by grind
   simp only[Bool.true_and,Bool.and_true,cond_true]
   grind [Ok.e,Ok.t,Ok.d]
  | false=>
   simp only[Bool.false_and,Bool.not_false,cond_false]
   refine Ok.t rfl (Ok.e (λh1=>Ok.d ?_) λh1=>Ok.e (λh2=>Ok.d ?_) λh2=>Ok.e (λh3=>Ok.d ?_) λh3=>Ok.c (SL _ (by simp at h2 h3;omega)) λr hr=>Ok.d ?_)
   ·grind
   ·grind
   ·grind
   grind
 grind [Ok.e,Ok.d,Uk]
theorem GQ(t:Z7):Qz (Dr t) (λr=>r=Uk t):=by
 unfold Dr
 refine Qz.fn ?_
 unfold Qh2 Uk
 refine Ok.e (λh=>?_) λh=>?_
 ·rw[h]
  exact Ok.n (R:=λc=>c=(t.fV==0&&t.fM==0)) (Ok.e (by grind [Ok.d]) (by grind [Ok.d])) λc hc=>Ok.d hc
 ·rw[h]
  refine Ok.n (R:=λc=>c=(decide (0<=t.fq)&&(decide (1<=t.fM)&&(decide (t.fM<=8)&&t.fV==Hz t.fM)))) (Ok.e (λh=>?_) (by grind [Ok.d])) λc hc=>Ok.d hc
  grind [Ok.e,Ok.d,Ok.c,IB]
theorem yZ(t:Z7)(now:Int):Qz (dM t now) (λr=>r=Ub t now):=by
 unfold dM
 refine Qz.fn ?_
 unfold Qjt Ub N5
 refine Ok.c (yY t) λr hr=>?_
 subst hr
 cases Uk t with
 | false=>exact Ok.t rfl (Ok.d rfl)
 | true=>
  refine Ok.f rfl (Ok.c (JA _ _) λr hr=>?_)
  grind [Ok.e,Ok.d,Ok.c,JA]
theorem Bz(now:Int):(decide (now < 0) || decide ((1099511627776:Int) < now))=!N5 now:=by
 unfold N5
 grind
theorem GZ(t:Z7)(now:Int):Qz (s77 t now) (λr=>r=Ub t now):=by
 unfold s77
 refine Qz.fn ?_
 unfold g77 Ub
 refine Ok.c (GQ t) λr hr=>?_
 subst hr
 refine Ok.e (by grind [Ok.d]) λh=>?_
 rw[h]
 refine Ok.n (R:=λc=>c=!N5 now) (by grind [Bz,Ok.e,Ok.d]) λc hc=>?_
 subst hc
 refine Ok.e (by grind [Ok.d]) λh=>?_
 rw[h]
 exact Ok.n (R:=λc=>c=(decide (0<=t.fq)&&decide (t.fq<=now))) (Ok.e (by grind [Ok.d]) (by grind [Ok.d])) (by grind [Ok.d])
theorem NA{t:Z7}{now:Int}(h:((Ub t now).2 != 0)=false)(h2:(!(Ub t now).1)=false):N5 now=true/\1<=t.fM/\t.fM<=8:=by
 unfold Ub at h h2
 cases ht:Uk t with
 | false=>grind
 | true=>
  cases hn:N5 now with
  | false=>grind
  | true=>
   refine⟨rfl,?_⟩
   rw[ht,hn] at h2
   simp only[Bool.not_true,cond_false,Bool.not_eq_false',zD,zC] at h2
   unfold Uk at ht
   grind
theorem gJ{t:Z7}{now:Int}(h:N5 now=true/\1<=t.fM/\t.fM<=8):Q0 (t.fM+1)=t.fM+1/\Q0 (now+Hz (t.fM+1))=now+Hz (t.fM+1):=by
 obtain⟨h1,h2,h3⟩:=h
 unfold N5 at h1
 simp only[zD,zC] at h1
 grind [Z3,Hz]
theorem yJ(t:Z7)(now:Int):Qz (rR t now) (λr=>r=NI t now):=by
 unfold rR
 refine Qz.fn ?_
 unfold Qjc NI
 refine Ok.c (yZ t now) λr hr=>?_
 subst hr
 refine Ok.e (λh=>Ok.d (by rw[h];rfl)) λh=>?_
 rw[h]
 refine Ok.e (λh2=>Ok.d (by rw[h2];rfl)) λh2=>?_
 rw[h2]
 refine Ok.e (λh3=>Ok.d (by rw[h3];rfl)) λh3=>?_
 rw[h3]
 have f:=NA h h2
 obtain⟨e1,e2⟩:=gJ f
 grind [Ok.c,SL,Ok.d]
theorem Pa(t:Z7)(now:Int):Qz (s78 t now) (λr=>r=NI t now):=by
 unfold s78
 refine Qz.fn ?_
 unfold g78 NI
 refine Ok.c (GZ t now) λr hr=>?_
 subst hr
 refine Ok.e (λh=>Ok.d (by rw[h];rfl)) λh=>?_
 rw[h]
 refine Ok.e (λh2=>Ok.d (by rw[h2];rfl)) λh2=>?_
 rw[h2]
 refine Ok.e (λh3=>Ok.d (by rw[h3];rfl)) λh3=>?_
 rw[h3]
 have f:=NA h h2
 obtain⟨e1,e2⟩:=gJ f
 grind [Ok.c,IB,Ok.d]
theorem qV(now:Int)(h:N5 now=true):Qz (nT now) (λr=>r=(Rr now,0)):=by
 unfold nT
 refine Qz.fn ?_
 unfold Qj3
 have h':=h
 unfold N5 at h'
 refine Ok.c (JA _ _) λr hr=>Ok.f (by grind) (Ok.d ?_)
 simp only[zD,zC] at h'
 rw[Z3 (by omega) (by omega)];rfl
theorem Px(now:Int)(h:N5 now=true):Qz (pD now) (λr=>r=(Rr now,0)):=by
 unfold pD
 refine Qz.fn ?_
 unfold Quh
 refine Ok.n (R:=λc=>c=!N5 now) (by grind [Bz,Ok.e,Ok.d]) λc hc=>Ok.f (by grind) (Ok.d ?_)
 unfold N5 at h
 simp only[zD,zC] at h
 rw[Z3 (by omega) (by omega)];rfl
theorem Wi:Qz s68 (λr=>r=nY):=⟨_,rfl,rfl⟩
theorem SE(l:List Qq)(hl:l.length<=100000):Qz (s38 l l) (λr=>r=true):=by
 unfold s38
 refine Qz.fn ?_
 unfold g38
 refine Ok.f (by simp) (Ok.p (R:=Sum.elim (λ_=>False) (λ_=>True)) ?_ (λe he=>he.elim) λe _=>Ok.d rfl)
 refine Ok.s l.length (by omega) (λk y=>y=(k:Int)) rfl (λk y hy hk=>?_) λy hy=>?_
 ·subst hy
  obtain⟨x,hx,hx'⟩:=E1 (l:=l) (k:=k) hk
  grind [Ok.t,E3,Ok.r,Ok.f,Ok.d,Z8]
 ·subst hy
  exact Ok.f (by rw[E3];simp) (Ok.d trivial)
structure Sm(s:Q4):Prop where
 bd:s.fh.size<=100000
 pb:s.fk.fh.size<=100000
 td:s.fE.size<=100000
 rn:s.fB.size<=100000
 pr:s.ft.length<=1000
 ps:∀p,p∈s.ft->p.size<=100000
 ls:s.fo.length<=1000
def UM(s:za):Bool:=decide (s.size=32)
def WC(s:za):Bool:=decide (s=zd)
def Hh(s:Q4)(x:H2):Int:=if x.QB=1 then x.ZT+(s.fh.size:Int) else if x.QB=2 then x.ZT+(s.fh.size:Int)+(s.fk.fh.size:Int) else x.ZT
def Mm(s:Q4)(k:Int):Bool:=if k=0 then WC s.fk.fB&&(WC s.fk.fQ&&(WC s.fk.fh&&WC s.fI)) else if k=1 then UM s.fk.fB&&(UM s.fk.fQ&&(WC s.fk.fh&&WC s.fI)) else UM s.fk.fB&&(UM s.fk.fQ&&(UM s.fI&&okB s.fk.fh))
def UO(s:Q4)(k:Int):Bool:=if k=0 then decide (s.fo.length=0) else match s.fo with
 | [n]=>S7 n&&(n.fp==k&&n.fR==Q0 (s.fm - 1))
 | _=>false
def B1(s:Q4)(x:H2):Bool:=s.fF==x.JF&&(s.fw==x.Zv&&(decide (x.YQ<=s.fm)&&(decide (s.fm<=x.JG)&&((s.fE.size:Int)==Hh s x&&(x.KJ==decide (0<=s.fC.fq)&&(Mm s x.QB&&UO s x.Dq))))))
def W7:List H2:=[⟨1,1,0,0,0,0,0,false⟩,⟨2,1,0,0,0,0,0,false⟩,⟨2,1,1,6,0,0,2,false⟩,⟨1,2,1,1,0,0,1,true⟩,⟨1,3,2,7,100,0,1,true⟩,⟨2,4,1,7,168,1,3,true⟩,⟨1,5,3,8,204,2,4,true⟩,⟨1,6,3,8,240,2,0,false⟩,⟨2,6,2,8,240,2,5,false⟩,⟨1,7,0,8,0,0,0,false⟩,⟨2,7,0,8,0,0,0,false⟩]
def Rx(s:Q4):Bool:=if s.fw=7 then s.gd==2 || (s.gd==4 || (s.gd==6 || (s.gd==9 || s.gd==10))) else s.gd==0
def Kz(s:Q4):Bool:=if s.fF=2 then UM s.fZ else WC s.fZ
def Lm(s:Q4):Bool:=decide (s.ft.length<=8)&&s.ft.all YA
def iA(s:Q4):Bool:=N5 s.fj&&(UM s.gc&&(UM s.fX&&(UM s.fB&&(Kz s&&(Lm s&&(okB s.fh&&(Uk s.fC&&Rx s)))))))
def Zz(s:Q4):Bool:=iA s&&W7.any (B1 s)
theorem SO(s:za)(hs:s.size<=100000):Qz (dF s) (λr=>r=okB s):=by
 grind [oF,Qz.fn,Ok.c,Ex,Ok.d,dF,Qus,YK,okB]
theorem xT(m:Q9)(x:H2)(h:Sm m.fc)(hx:x∈W7):Qz (rX m x) (λr=>r=Hh m.fc x):=by
 have ht:0<=x.ZT/\x.ZT<=1000:=by
  have:(W7.all λx=>decide (0<=x.ZT/\x.ZT<=1000))=true:=by decide
  grind
 have b:=h.bd
 have p:=h.pb
 unfold rX
 refine Qz.fn ?_
 unfold Qjl Hh
 refine Ok.e (λh1=>Ok.d ?_) λh1=>Ok.e (λh2=>Ok.d ?_) λh2=>Ok.d ?_
 ·rw[if_pos (by simpa using h1),Z3 (by omega) (by omega)]
 ·rw[if_neg (by simpa using h1),if_pos (by simpa using h2),Z3 (n:=x.ZT+_) (by omega) (by omega),Z3 (by omega) (by omega)]
 grind
theorem Y7{P:Program}{G:ze}{a:Nat}{c d:Bool}{y:T P G Bool}(h:c=true->Ok y (λr=>r=d)):Ok (.br a c y (.done false)) (λr=>r=(c&&d)):=by
 simp_all [Ok.e,Ok.d,Bool.true_and]
theorem EY{P:Program}{G:ze}{a:Nat}{c d:Bool}{y:T P G Bool}(h:c=false->Ok y (λr=>r=!d)):Ok (.br a c (.done true) y) (λr=>r=!(!c&&d)):=by
 simp_all [Ok.e,Ok.d]
theorem int32(s:za):((s.size:Int)==32)=UM s:=by unfold UM;grind
theorem jZ(a b:Int):decide (a < b)=!decide (b<=a):=by grind
theorem GS{l:List Qq}(h:l.length=1):∃n,l=[n]:=by
 match l,h with
 | [n],_=>grind
theorem xV(m:Q9)(x:H2)(h:Sm m.fc)(hx:x∈W7):Qz (pL m x) (λr=>r=B1 m.fc x):=by
 unfold pL
 refine Qz.fn ?_
 unfold Qug B1
 refine Ok.n (R:=λc=>c=!(m.fc.fF==x.JF&&(m.fc.fw==x.Zv&&(decide (x.YQ<=m.fc.fm)&&(decide (m.fc.fm<=x.JG)&&((m.fc.fE.size:Int)==Hh m.fc x&&x.KJ==decide (0<=m.fc.fC.fq))))))) ?_ λc hc=>?_
 ·have f:∀b:Bool,b=!(!b):=λb=>by simp
  have e1:(m.fc.fF==x.JF)=!(m.fc.fF != x.JF):=by simp[bne]
  have e2:(m.fc.fw==x.Zv)=!(m.fc.fw != x.Zv):=by simp[bne]
  have e3:decide (x.YQ<=m.fc.fm)=!decide (m.fc.fm < x.YQ):=by grind
  have e4:decide (m.fc.fm<=x.JG)=!decide (x.JG < m.fc.fm):=by grind
  rw[e1,e2,e3,e4]
  refine EY λ_=>EY λ_=>EY λ_=>EY λ_=>Ok.c (xT m x h hx) λr hr=>?_
  subst hr
  rw[show ((m.fc.fE.size:Int)==Hh m.fc x)=!((m.fc.fE.size:Int) != Hh m.fc x) by simp[bne]]
  exact EY λ_=>Ok.d rfl
 ·generalize ((m.fc.fE.size:Int)==Hh m.fc x)=A at *
  generalize (x.KJ==decide (0<=m.fc.fC.fq))=B at *
  generalize (m.fc.fF==x.JF)=c1 at *
  generalize (m.fc.fw==x.Zv)=c2 at *
  generalize decide (x.YQ<=m.fc.fm)=c3 at *
  generalize decide (m.fc.fm<=x.JG)=c4 at *
  subst hc
  have re:(c1&&(c2&&(c3&&(c4&&(A&&(B&&(Mm m.fc x.QB&&UO m.fc x.Dq)))))))=((c1&&(c2&&(c3&&(c4&&(A&&B)))))&&(Mm m.fc x.QB&&UO m.fc x.Dq)):=by grind
  rw[re]
  generalize (c1&&(c2&&(c3&&(c4&&(A&&B)))))=C
  cases C with
  | false=>exact Ok.t rfl (Ok.d rfl)
  | true=>
   refine Ok.f rfl ?_
   rw[Bool.true_and]
   refine Ok.b (R:=λe=>e=Mm m.fc x.QB) ?_ λe he=>?_
   ·unfold Mm
    refine Ok.e (λh1=>?_) λh1=>Ok.e (λh2=>?_) λh2=>?_
    ·rw[if_pos (by simpa using h1)]
     refine Ok.n (R:=λc=>c=_) ?_ λc hc=>Ok.d hc
     rw[Bool.and_true,show (WC m.fc.fk.fB&&(WC m.fc.fk.fQ&&(WC m.fc.fk.fh&&WC m.fc.fI)))=((WC m.fc.fk.fB&&(WC m.fc.fk.fQ&&WC m.fc.fk.fh))&&WC m.fc.fI) by simp only[Bool.and_assoc]]
     exact Y7 λ_=>Ok.d rfl
    ·rw[if_neg (by simpa using h1),if_pos (by simpa using h2)]
     refine Ok.n (R:=λc=>c=_) ?_ λc hc=>Ok.d hc
     refine Ok.v (Wo _ (by simp)) λr hr=>?_
     rw[show (UM m.fc.fk.fB&&(UM m.fc.fk.fQ&&(WC m.fc.fk.fh&&WC m.fc.fI)))=(r&&(WC m.fc.fk.fh&&WC m.fc.fI)) by rw[hr];simp only[List.all_cons,List.all_nil,Bool.and_true,Bool.and_assoc];rfl]
     exact Y7 λ_=>Y7 λ_=>Ok.d rfl
    ·rw[if_neg (by simpa using h1),if_neg (by simpa using h2)]
     refine Ok.n (R:=λc=>c=_) ?_ λc hc=>Ok.d hc
     refine Ok.v (Wo _ (by simp)) λr hr=>?_
     rw[show (UM m.fc.fk.fB&&(UM m.fc.fk.fQ&&(UM m.fc.fI&&okB m.fc.fk.fh)))=(r&&okB m.fc.fk.fh) by rw[hr];simp only[List.all_cons,List.all_nil,Bool.and_true,Bool.and_assoc];rfl]
     exact Y7 λ_=>Ok.c (SO _ h.pb) λr hr=>Ok.d hr
   ·subst he
    unfold UO
    refine Ok.e (λh1=>?_) λh1=>?_
    ·rw[if_pos (by simpa using h1)]
     refine Ok.n (R:=λc=>c=_) ?_ λc hc=>Ok.d hc
     refine Y7 λ_=>Ok.d ?_
     rw[E3,Bool.eq_iff_iff];simp
    ·rw[if_neg (by simpa using h1)]
     refine Ok.n (R:=λc=>c=_) ?_ λc hc=>Ok.d hc
     refine Y7 λ_=>?_
     refine Ok.e (λh2=>?_) λh2=>Ok.d ?_
     ·obtain⟨n,hn⟩:=GS (l:=m.fc.fo) (by rw[E3] at h2;simp at h2;omega)
      rw[hn]
      refine Ok.r rfl rfl (Ok.c (GW n) λr hr=>?_)
      have er:(r==0)=S7 n:=by grind
      rw[er]
      exact Y7 λ_=>Ok.r rfl rfl (Y7 λ_=>Ok.r rfl rfl (Ok.d rfl))
     grind [E3]
theorem xP(m:Q9)(h:Sm m.fc):Qz (rA W7 m) (λr=>decide (0<=r)=W7.any (B1 m.fc)):=by
 unfold rA
 refine Qz.fn ?_
 unfold Qjf
 refine Ok.p (R:=Sum.elim (λe=>0<=e/\W7.any (B1 m.fc)=true) (λ_=>W7.any (B1 m.fc)=false)) ?_ (by grind [Ok.d]) (by grind [Ok.d])
 refine Ok.s W7.length (by decide) (λk y=>y=(k:Int)/\(W7.take k).any (B1 m.fc)=false) ⟨rfl,rfl⟩ (λk y hy hk=>?_) λy hy=>?_
 ·obtain⟨rfl,h1⟩:=hy
  obtain⟨x,hx,hx'⟩:=E1 (l:=W7) (k:=k) hk
  have h2:=B6 hx' h1
  refine Ok.t (by grind [E3]) (Ok.r (by simp) hx (Ok.c (xV m x h (zQ hx')) λr hr=>?_))
  subst hr
  refine Ok.e (λh=>Ok.d ?_) λh=>Ok.d ?_
  ·grind
  ·exact⟨Z8 hk (by decide),by grind⟩
 ·obtain⟨rfl,h1⟩:=hy
  grind [List.take_length,Ok.f,E3,Ok.d]
theorem aH(l:List Int)(w:Int)(hl:l.length<=100):Qz (pG l w) (λr=>r=l.any λx=>w==x):=by
 have h1:Qz (rI l w) (λr=>decide (0<=r)=l.any λx=>w==x):=by
  unfold rI
  refine Qz.fn ?_
  unfold Qjg
  refine Ok.p (R:=Sum.elim (λe=>0<=e/\(l.any λx=>w==x)=true) (λ_=>(l.any λx=>w==x)=false)) ?_ (by grind [Ok.d]) (by grind [Ok.d])
  refine Ok.s l.length (by omega) (λk y=>y=(k:Int)/\((l.take k).any λx=>w==x)=false) ⟨rfl,rfl⟩ (λk y hy hk=>?_) λy hy=>?_
  ·obtain⟨rfl,h1⟩:=hy
   grind [E1,B6,Ok.t,E3,Ok.r,Ok.e,Ok.d,O4,Z8]
  ·obtain⟨rfl,h1⟩:=hy
   grind [List.take_length,Ok.f,E3,Ok.d]
 grind [oF,Qz.fn,Ok.c,Ok.d,pG,Qur]
theorem qT(m:Q9)(h:Sm m.fc):Qz (s65 m) (λr=>r=Zz m.fc):=by
 unfold s65
 refine Qz.fn ?_
 unfold g65
 refine Ok.b (R:=λe=>e=Kz m.fc) ?_ λe he=>?_
 ·unfold Kz
  refine Ok.e (λh1=>Ok.v (Wo _ (by simp)) λr hr=>Ok.d ?_) λh1=>Ok.d ?_
  ·rw[if_pos (by simpa using h1),hr];simp only[List.all_cons,List.all_nil,Bool.and_true];rfl
  ·rw[if_neg (by simpa using h1)];rfl
 subst he
 refine Ok.b (R:=λl=>l.length<=100/\(l.any λx=>m.fc.gd==x)=Rx m.fc) ?_ λl hl=>?_
 ·unfold Rx
  refine Ok.e (λh1=>Ok.g (Ok.d ?_)) λh1=>Ok.g (Ok.d ?_)
  ·grind
  grind
 refine Ok.n (R:=λc=>c=Lm m.fc) ?_ λc hc=>?_
 ·unfold Lm
  rw[show decide (m.fc.ft.length<=8)=decide (M9 Z2 m.fc.ft<=8) by rw[E3];grind]
  exact Y7 λ_=>Ok.c (yW _ (by have:=h.pr;omega)) (by grind [Ok.d,DP])
 subst hc
 refine Ok.n (R:=λc=>c=(N5 m.fc.fj&&(UM m.fc.gc&&(UM m.fc.fX&&(UM m.fc.fB&&(Kz m.fc&&(Lm m.fc&&okB m.fc.fh))))))) ?_ λc hc=>?_
 ·unfold N5
  rw[Bool.and_assoc]
  refine Y7 λ_=>Y7 λ_=>Ok.v (Wo _ (by simp)) λr hr=>?_
  rw[show (UM m.fc.gc&&(UM m.fc.fX&&(UM m.fc.fB&&(Kz m.fc&&(Lm m.fc&&okB m.fc.fh)))))=(r&&(Kz m.fc&&(Lm m.fc&&okB m.fc.fh))) by rw[hr];simp only[List.all_cons,List.all_nil,Bool.and_true,Bool.and_assoc];rfl]
  exact Y7 λ_=>Y7 λ_=>Y7 λ_=>Ok.c (SO _ h.bd) λr hr=>Ok.d hr
 refine Ok.n (R:=λc=>c=Zz m.fc) ?_ λc hc=>Ok.d hc
 unfold Zz iA
 rw[show (N5 m.fc.fj&&(UM m.fc.gc&&(UM m.fc.fX&&(UM m.fc.fB&&(Kz m.fc&&(Lm m.fc&&(okB m.fc.fh&&(Uk m.fc.fC&&Rx m.fc))))))))=(c&&(Uk m.fc.fC&&Rx m.fc)) by rw[hc];simp only[Bool.and_assoc],Bool.and_assoc,Bool.and_assoc]
 refine Y7 λ_=>Ok.c (yY _) λr hr=>?_
 rw[show Uk m.fc.fC=(r==0) by rw[hr];cases Uk m.fc.fC<;>rfl]
 refine Y7 λ_=>Ok.v (aH l _ hl.1) λr hr=>?_
 rw[<-hl.2,<-hr]
 refine Y7 λ_=>Ok.c (R:=λr=>r=W7) ⟨_,rfl,rfl⟩ λr hr=>?_
 subst hr
 have h2:Qz (pF W7 m) (λr=>r=W7.any (B1 m.fc)):=by
  grind [oF,Qz.fn,Ok.c,xP,Ok.d,pF,Qun]
 grind [Ok.c,Ok.d]
theorem GJ(s:Q4)(h:Sm s):Qz (s28 s) (λr=>r=bif Zz s then 0 else 200):=by
 grind [oF,Qz.fn,Ok.g,Ok.v,qT,Ok.e,Ok.d,s28,g28,ByteArray.empty,Zz]
theorem YU{n:Int}(h0:0<=n)(h:n < 32):(bif decide (0<=n)&&decide (n < ((32:Nat):Int)) then some () else none)=some ():=by
 grind
theorem Kh{f:zh}{j n:Nat}(hj:j=n)(h:n < 32):(vec f)[j]?=some (f n):=by rw[hj,OD,if_pos h]
theorem xA(a b c:Zj)(hc:∀k,c.getMsbD k=(a.getMsbD k ^^ b.getMsbD k)):Qz (Cq a.getMsbD b.getMsbD) (λr=>r=c.getMsbD):=by
 unfold Cq
 refine Qz.fn ?_
 unfold Qyo
 refine Ok.o rfl (Ok.o rfl (Ok.o rfl (Ok.o rfl (Ok.b (R:=λe=>e=c.getMsbD) ?_ λe he=>Ok.o rfl (Ok.o rfl (Ok.d he))))))
 refine Ok.s 32 (by decide) (λk y=>y=(λi=>decide (i < k)&&c.getMsbD i,(k:Int))) (by grind) (λk y hy hk=>?_) λy hy=>?_
 ·subst hy
  refine Ok.t (by simp;omega) (Ok.o (r:=()) (YU (by simp) (by grind)) (Ok.r rfl (Kh (n:=k) (by simp) hk) (Ok.o (r:=()) (YU (by simp) (by grind)) (Ok.r rfl (Kh (n:=k) (by simp) hk) (Ok.o (r:=()) (YU (by simp) (by grind)) (Ok.r rfl (Kh (n:=k) (by simp) hk) (Ok.re (Ok.d ?_))))))))
  show (_,_)=_
  rw[Z8 hk (by decide),<-Xx,hc]
  grind
 ·subst hy
  exact Ok.f rfl (Ok.d (Aw _))
theorem Pw(a b:Zj):Qz (Cq a.getMsbD b.getMsbD) (λr=>r=(a ^^^ b).getMsbD):=xA a b _ λ_=>BitVec.getMsbD_xor
theorem xG(a b c:Zj)(hc:∀k,c.getMsbD k=(a.getMsbD k&&b.getMsbD k)):Qz (Gk a.getMsbD b.getMsbD) (λr=>r=c.getMsbD):=by
 unfold Gk
 refine Qz.fn ?_
 unfold Qyi
 refine Ok.o rfl (Ok.o rfl (Ok.o rfl (Ok.o rfl (Ok.b (R:=λe=>e=c.getMsbD) ?_ λe he=>Ok.o rfl (Ok.o rfl (Ok.d he))))))
 refine Ok.s 32 (by decide) (λk y=>y=(λi=>decide (i < k)&&c.getMsbD i,(k:Int))) (by grind) (λk y hy hk=>?_) λy hy=>?_
 ·subst hy
  have g:∀x:Bool,x=c.getMsbD k->(FI (λi=>decide (i < k)&&c.getMsbD i) (0+((k:Int)).toNat) x,Q0 ((k:Int)+1))=(λi=>decide (i < k+1)&&c.getMsbD i,((k+1:Nat):Int)):=λx hx=>by
   rw[Z8 hk (by decide),<-Xx,hx]
   grind
  refine Ok.t (by simp;omega) (Ok.o (r:=()) (YU (by simp) (by grind)) (Ok.r rfl (Kh (n:=k) (by simp) hk) (Ok.e (λh=>?_) λh=>?_)))
  ·exact Ok.o (r:=()) (YU (by simp) (by grind)) (Ok.r rfl (Kh (n:=k) (by simp) hk) (Ok.o (r:=()) (YU (by simp) (by grind)) (Ok.r rfl (Kh (n:=k) (by simp) hk) (by grind [Ok.re,Ok.d]))))
  ·exact Ok.o (r:=()) (YU (by simp) (by grind)) (Ok.r rfl (Kh (n:=k) (by simp) hk) (by grind [Ok.re,Ok.d]))
 ·subst hy
  exact Ok.f rfl (Ok.d (Aw _))
theorem XL(a b:Zj):Qz (Gk a.getMsbD b.getMsbD) (λr=>r=(a &&& b).getMsbD):=xG a b _ λ_=>BitVec.getMsbD_and
theorem xL(a c:Zj)(hc:∀k,c.getMsbD k=(decide (k < 32)&&!a.getMsbD k)):Qz (dQ a.getMsbD) (λr=>r=c.getMsbD):=by
 unfold dQ
 refine Qz.fn ?_
 unfold Qya
 refine Ok.o rfl (Ok.o rfl (Ok.o rfl (Ok.b (R:=λe=>e=c.getMsbD) ?_ λe he=>Ok.o rfl (Ok.o rfl (Ok.d he)))))
 refine Ok.s 32 (by decide) (λk y=>y=(λi=>decide (i < k)&&c.getMsbD i,(k:Int))) (by grind) (λk y hy hk=>?_) λy hy=>?_
 ·subst hy
  refine Ok.t (by simp;omega) (Ok.o (r:=()) (YU (by simp) (by grind)) (Ok.r rfl (Kh (n:=k) (by simp) hk) (Ok.o (r:=()) (YU (by simp) (by grind)) (Ok.r rfl (Kh (n:=k) (by simp) hk) (Ok.re (Ok.d ?_))))))
  show (_,_)=_
  rw[Z8 hk (by decide),<-Xx,hc]
  grind
 ·subst hy
  exact Ok.f rfl (Ok.d (Aw _))
theorem sN(a:Zj):Qz (dQ a.getMsbD) (λr=>r=(~~~a).getMsbD):=xL a _ λ_=>BitVec.getMsbD_not
theorem L7(a:Zj)(c:Nat)(hc:c < 32):Qz (Df a.getMsbD (c:Int)) (λr=>r=(a.rotateRight c).getMsbD):=by
 unfold Df
 refine Qz.fn ?_
 unfold Qyf
 refine Ok.o rfl (Ok.o rfl (Ok.o rfl (Ok.b (R:=λe=>e=(a.rotateRight c).getMsbD) ?_ λe he=>Ok.o rfl (Ok.o rfl (Ok.d he)))))
 have back:∀j,j < 32->(a.rotateRight c).getMsbD j=a.getMsbD ((j+32 - c) % 32):=(by grind)
 refine Ok.s 32 (by decide) (λk y=>y=(λj=>(decide (j < 32)&&decide ((j+32 - c) % 32 < k))&&a.getMsbD ((j+32 - c) % 32),(k:Int))) (by
  grind) (λk y hy hk=>?_) λy hy=>?_
 ·subst hy
  have e1:Int.tmod (Q0 ((k:Int)+(c:Int))) 32=(((k+c) % 32:Nat):Int):=by
   grind [Z3,Int.tmod_eq_emod_of_nonneg]
  have hm:(k+c) % 32 < 32:=Nat.mod_lt _ (by decide)
  refine Ok.t (by simp;omega) (Ok.o (r:=()) (YU (by simp) (by grind)) (Ok.r rfl (Kh (n:=k) (by simp) hk) (Ok.o (r:=()) (YU (by rw[e1];omega) (by rw[e1];omega)) (Ok.r rfl (Kh (n:=(k+c) % 32) (by grind) hm) (Ok.re (Ok.d ?_))))))
  show (_,_)=_
  rw[Z8 hk (by decide),e1]
  congr 1
  funext j
  simp only[zL,zP,FI]
  by_cases hj:j=(k+c) % 32
  ·subst hj
   have:((k+c) % 32+32 - c) % 32=k:=by omega
   grind
  grind
 ·subst hy
  refine Ok.f rfl (Ok.d ?_)
  grind
theorem Gs(a:Zj)(c:Nat)(hc:c < 32):Qz (dZ a.getMsbD (c:Int)) (λr=>r=(a >>> c).getMsbD):=by
 unfold dZ
 refine Qz.fn ?_
 unfold Qyl
 refine Ok.o rfl (Ok.o rfl (Ok.o rfl (Ok.b (R:=λe=>e=(a >>> c).getMsbD) ?_ λe he=>Ok.o rfl (Ok.o rfl (Ok.d he)))))
 refine Ok.s (32 - c) (by omega) (λk y=>y=(λj=>(decide (c<=j)&&decide (j < k+c))&&a.getMsbD (j - c),(k:Int))) (by
  grind) (λk y hy hk=>?_) λy hy=>?_
 ·subst hy
  have e1:Q0 ((k:Int)+(c:Int))=((k+c:Nat):Int):=by grind [Z3]
  refine Ok.t (by grind) (Ok.o (r:=()) (YU (by simp) (by simp;omega)) (Ok.r rfl (Kh (n:=k) (by simp) (by omega)) (Ok.o (r:=()) (YU (by rw[e1];omega) (by rw[e1];omega)) (Ok.r rfl (Kh (n:=k+c) (by grind) (by omega)) (Ok.re (Ok.d ?_))))))
  show (_,_)=_
  rw[Z8 (n:=32) (by omega) (by decide),e1]
  congr 1
  funext j
  simp only[zL,zP,FI]
  grind
 grind [Ok.f,Z3,Ok.d]
theorem lT(a:Zj){k:Nat}(hk:k < 32):a.getMsbD k=decide (a.toNat / 2 ^ (31 - k) % 2=1):=by
 rw[BitVec.getMsbD,BitVec.getLsbD,Nat.testBit_eq_decide_div_mod_eq]
 simp[hk]
theorem JE(a:Zj):Qz (Gm a.getMsbD) (λr=>r=iv a):=by
 unfold Gm
 refine Qz.fn ?_
 unfold Qyn
 have hlt:=a.isLt
 refine Ok.o rfl (Ok.b (R:=λe=>e=iv a) ?_ λe he=>Ok.d he)
 refine Ok.s 32 (by decide) (λk y=>y=(((a.toNat / 2 ^ (32 - k):Nat):Int),(k:Int))) (by
  grind) (λk y hy hk=>?_) λy hy=>?_
 ·subst hy
  have hb:=lT a hk
  have hd:a.toNat / 2 ^ (31 - k) / 2=a.toNat / 2 ^ (32 - k):=by rw[Nat.div_div_eq_div_mul,show 32 - k=31 - k+1 by omega,Nat.pow_succ]
  have hs:a.toNat / 2 ^ (31 - k)<=a.toNat:=Nat.div_le_self _ _
  rw[show 32 - (k+1)=31 - k by omega]
  generalize a.toNat / 2 ^ (31 - k)=q at hb hd hs ⊢
  rw[<-hd]
  refine Ok.t (by simp;omega) (Ok.o (r:=()) (YU (by simp) (by grind)) (Ok.r rfl (Kh (n:=k) (by simp) hk) ?_))
  refine Ok.e (λh=>Ok.d ?_) λh=>Ok.d ?_
  ·show (_,_)=_
   rw[hb,zC] at h
   grind [Z8,Z3]
  grind [decide_eq_false_iff_not,Z8,Z3]
 ·subst hy
  refine Ok.f rfl (Ok.d ?_)
  simp_all [Nat.pow_zero,Nat.div_one,iv]
theorem YI(a:Zj):Qz (Iz (iv a)) (λr=>r=a.getMsbD):=by
 unfold Iz
 refine Qz.fn ?_
 unfold Qyr
 have hlt:=a.isLt
 refine Ok.o rfl (Ok.o rfl (Ok.b (R:=λe=>e=a.getMsbD) ?_ λe he=>Ok.o rfl (Ok.o rfl (Ok.d he))))
 refine Ok.s 32 (by decide) (λk y=>y=(λj=>(decide (32 - k<=j)&&decide (j < 32))&&a.getMsbD j,((a.toNat / 2 ^ k:Nat):Int),(31:Int) - (k:Int))) (by
  show (_,_,_)=_
  rw[Nat.pow_zero,Nat.div_one]
  congr 1;grind) (λk y hy hk=>?_) λy hy=>?_
 ·subst hy
  have hb:=lT a (k:=31 - k) (by omega)
  rw[show 31 - (31 - k)=k by omega] at hb
  have hd:a.toNat / 2 ^ k / 2=a.toNat / 2 ^ (k+1):=by rw[Nat.div_div_eq_div_mul,Nat.pow_succ]
  have hs:a.toNat / 2 ^ k<=a.toNat:=Nat.div_le_self _ _
  rw[<-hd]
  generalize a.toNat / 2 ^ k=q at hb hd hs ⊢
  have e1:(31:Int) - (k:Int)=((31 - k:Nat):Int):=by omega
  refine Ok.t (by grind) (Ok.o (r:=()) (YU (by grind) (by grind)) (Ok.r rfl (Kh (n:=31 - k) (by grind) (by omega)) (Ok.re (Ok.d ?_))))
  show (FI _ _ (Int.tmod (q:Int) 2==1),Q0 (Int.tdiv (q:Int) 2),Q0 ((31:Int) - (k:Int) - 1))=_
  rw[Int.tdiv_eq_ediv_of_nonneg (by omega),Z3 (n:=(q:Int) / 2) (by omega) (by omega),Z3 (by omega) (by omega),Int.tmod_eq_emod_of_nonneg (by omega)]
  congr 1
  ·funext j
   simp only[e1,zL,zP,FI]
   grind
  grind
 ·subst hy
  refine Ok.f rfl (Ok.d ?_)
  grind
theorem Hb(a b c:Zj):Qz (RW a.getMsbD b.getMsbD c.getMsbD) (λr=>r=(a ^^^ b ^^^ c).getMsbD):=by
 unfold RW
 refine Qz.fn ?_
 unfold Qyg
 refine Ok.o rfl (Ok.o rfl (Ok.o rfl (Ok.o rfl (Ok.o rfl (Ok.o rfl (Ok.c (Pw a b) λr hr=>?_))))))
 subst hr
 refine Ok.o rfl (Ok.c (Pw _ c) λr hr=>?_)
 subst hr
 exact Ok.o rfl (Ok.d rfl)
theorem xI(a b c d e:Int)(ha:0<=a/\a < 4294967296)(hb:0<=b/\b < 4294967296)(hc:0<=c/\c < 4294967296)(hd:0<=d/\d < 4294967296)(he:0<=e/\e < 4294967296):Qz (Dg a b c d e) (λr=>r=(a+b+c+d+e) % 4294967296):=by
 refine⟨_,rfl,?_⟩
 grind [Z3,Int.tmod_eq_emod_of_nonneg]
theorem To{s:za}{k:Nat}(h:k < s.size):(Q3 s)[k]?=some (QZ s (k:Int)):=by
 simp_all [zX,zL,Array.getElem?_toList,we,wk,Q3,QZ]
theorem DL(s:za)(h:s.size<=7):Qz (Ce s) (λr=>r=num (Q3 s)):=by
 have hl:=J3 s
 have hb:∀c,c∈Q3 s->0<=c/\c < 256:=λc hc=>Wn hc
 unfold Ce
 refine Qz.fn ?_
 unfold Quf
 refine Ok.b (R:=λe=>e=num (Q3 s)) ?_ λe he=>Ok.d he
 refine Ok.s s.size (by omega) (λk y=>k<=s.size/\y=(num ((Q3 s).take k),(k:Int))) ⟨Nat.zero_le _,rfl⟩ (λk y hy hk=>?_) λy hy=>?_
 ·obtain⟨_,rfl⟩:=hy
  refine Ok.t (by simp;omega) (Ok.k (by simp;omega) (Ok.d ?_))
  obtain⟨x,hx,hx'⟩:=E1 (l:=Q3 s) (k:=k) (by omega)
  have hbt:QZ s (k:Int)=x:=by
   grind [To,Option.some.inj]
  have h1:=SC (n:=k) hb (by omega)
  have h2:=hb x (zQ hx')
  grind [GX,Z8,Z3,Q0,num,Q3,QZ]
 ·obtain⟨_,rfl⟩:=hy
  grind [Ok.f,Ok.d,List.take_length,num,Q3]
theorem eE(a b c d e:Zj):(iv a+iv b+iv c+iv d+iv e) % 4294967296=iv (a+b+c+d+e):=by
 grind [iv]
theorem sO(a b c d e:Zj):Qz (Dg (iv a) (iv b) (iv c) (iv d) (iv e)) (λr=>r=iv (a+b+c+d+e)):=
 (xI _ _ _ _ _ (V4 a) (V4 b) (V4 c) (V4 d) (V4 e)).mono λr h=>by rw[h,eE]
theorem Hc(a b:Zj):Qz (Dg (iv a) (iv b) 0 0 0) (λr=>r=iv (a+b)):=
 (show Qz (Dg (iv a) (iv b) 0 0 0) (λr=>r=iv (a+b+0+0+0)) from sO a b 0 0 0).mono λr h=>by rw[h];simp
theorem Qze(a b c d:Zj):Qz (Dg (iv a) (iv b) (iv c) (iv d) 0) (λr=>r=iv (a+b+c+d)):=
 (show Qz (Dg (iv a) (iv b) (iv c) (iv d) 0) (λr=>r=iv (a+b+c+d+0)) from sO a b c d 0).mono λr h=>by rw[h];simp
theorem ix{n:Int}{k m:Nat}(h:n=(k:Int))(hk:k < m):(decide (0<=n)&&decide (n < (m:Int)))=true:=by grind
theorem RH(b:Nat->Zj)(k:Nat):K6 b (k+1)=K6 b k++[if k < 16 then b k else nxt (K6 b k) k]:=rfl
theorem RU(b:Nat->Zj):K6 b 0=[]:=rfl
attribute [local irreducible] K6
theorem qN(t:Y0)(ht:t.fK=J0)(v:V8)(s:za)(hs:s.size=64):Qz (rH t (l8 v) s) (λr=>r=l8 (iS KB (bw s) v)):=by
 unfold rH
 refine Qz.fn ?_
 unfold Qjz
 refine Ok.g (Ok.b (R:=λe=>e=(K6 (bw s) 64).map iv) ?_ λe he=>?_)
 ·refine Ok.s 64 (by decide) (λk y=>y=((K6 (bw s) k).map iv,(k:Int))) (by rw[RU];rfl) (λk y hy hk=>?_) λy hy=>?_
  ·subst hy
   have hlen:((K6 (bw s) k).map iv).length=k:=by rw[wq,Ww]
   have fin:∀w:Zj,w=(if k < 16 then bw s k else nxt (K6 (bw s) k) k)->(((K6 (bw s) k).map iv)++[iv w],Q0 ((k:Int)+1))=((K6 (bw s) (k+1)).map iv,((k+1:Nat):Int)):=λw hw=>by
    rw[Z8 hk (by decide),RH,<-hw,wE];rfl
   have sz:∀x:Int,(((K6 (bw s) k).map iv).length+[x].length) * 8<=140737488355328:=(by grind)
   refine Ok.t (by simp;omega) (Ok.e (λhc=>?_) λhc=>?_)
   ·have hc:(k:Int) < 16:=by simpa using hc
    have e1:Q0 ((4:Int) * (k:Int))=((4 * k:Nat):Int):=by grind [Z3]
    have e2:Q0 (((4 * k:Nat):Int)+4)=((4 * k+4:Nat):Int):=by grind [Z3]
    have ez:(s.extract (4 * k) (4 * k+4)).size=4:=by rw[ByteArray.size_extract];omega
    simp only[e1,e2,zL]
    refine Ok.k (by simp;omega) (Ok.c (DL _ (by omega)) λr hr=>?_)
    have hr':r=iv (bw s k):=by
     rw[hr,bw,ivN]
     have:=yI (l:=Q3 (s.extract (4 * k) (4 * k+4))) λc hc=>Wn hc
     rw[J3,ez] at this
     omega
    subst hr'
    exact Ok.app (sz _) (Ok.g (Ok.g (Ok.d (by grind))))
   ·have hc:16<=(k:Int):=by simpa using hc
    have e15:Q0 ((k:Int) - 15)=((k - 15:Nat):Int):=by grind [Z3]
    have e2:Q0 ((k:Int) - 2)=((k - 2:Nat):Int):=by grind [Z3]
    have e16:Q0 ((k:Int) - 16)=((k - 16:Nat):Int):=by grind [Z3]
    have e7:Q0 ((k:Int) - 7)=((k - 7:Nat):Int):=by grind [Z3]
    have look:∀n:Nat,n < k->((K6 (bw s) k).map iv)[0+(n:Int).toNat]?=some (iv (Sa (K6 (bw s) k) n)):=λn hn=>by
     simp_all [zL,zP,zX,wd,Ww,Sa]
    simp only[e15,e2,e16,e7]
    refine Ok.k (ix rfl (by omega)) (Ok.r rfl (look (k - 15) (by omega)) (Ok.c (YI _) λr1 q1=>?_))
    subst q1
    refine Ok.k (ix rfl (by omega)) (Ok.r rfl (look (k - 2) (by omega)) (Ok.c (YI _) λr2 q2=>?_))
    subst q2
    refine Ok.o rfl (Ok.o rfl (Ok.o rfl (Ok.o rfl (Ok.k (ix rfl (by omega)) (Ok.r rfl (look (k - 16) (by omega)) (Ok.k (ix rfl (by omega)) (Ok.r rfl (look (k - 7) (by omega)) ?_)))))))
    refine Ok.o rfl (Ok.c (L7 _ 7 (by decide)) λr3 q3=>?_);subst q3
    refine Ok.o rfl (Ok.c (L7 _ 18 (by decide)) λr4 q4=>?_);subst q4
    refine Ok.o rfl (Ok.c (Gs _ 3 (by decide)) λr5 q5=>?_);subst q5
    refine Ok.c (Hb _ _ _) λr6 q6=>?_;subst q6
    refine Ok.c (JE _) λr7 q7=>?_;subst q7
    refine Ok.o rfl (Ok.c (L7 _ 17 (by decide)) λr3 q3=>?_);subst q3
    refine Ok.o rfl (Ok.c (L7 _ 19 (by decide)) λr4 q4=>?_);subst q4
    refine Ok.o rfl (Ok.c (Gs _ 10 (by decide)) λr5 q5=>?_);subst q5
    refine Ok.c (Hb _ _ _) λr6 q6=>?_;subst q6
    refine Ok.c (JE _) λr8 q8=>?_;subst q8
    refine Ok.c (Qze _ _ _ _) λr9 q9=>?_;subst q9
    exact Ok.app (sz _) (Ok.g (Ok.g (Ok.d (fin _ (by rw[if_neg (by omega)];rfl)))))
  ·subst hy
   exact Ok.f rfl (Ok.d rfl)
 ·subst he
  unfold iS
  have hlen:((K6 (bw s) 64).map iv).length=64:=by rw[wq,Ww]
  generalize K6 (bw s) 64=W at hlen ⊢
  refine Ok.app (show (0+8) * 8<=140737488355328 by decide) (Ok.g (Ok.b (R:=λe=>e=l8 (Fc KB W v 64)) ?_ λe he=>?_))
  ·refine Ok.s 64 (by decide) (λk y=>y=(l8 (Fc KB W v k),(k:Int))) rfl (λk y hy hk=>?_) λy hy=>?_
   ·subst hy
    rw[Fc]
    generalize Fc KB W v k=u
    have hW:W.length=64:=by grind
    have lookW:(W.map iv)[0+(k:Int).toNat]?=some (iv (Sa W k)):=by
     simp_all [zL,zP,zX,wd,Sa]
    have lookK:t.fK[(k:Int).toNat]?=some (iv (Sa KB k)):=by
     grind [Int.toNat_natCast,HL,List.getElem?_eq_getElem,Ba,gU,J0]
    refine Ok.t (by simp;omega) ?_
    refine Ok.k rfl (Ok.r rfl (x:=iv u.a) rfl (Ok.c (YI _) λr q=>?_));subst q
    refine Ok.k rfl (Ok.r rfl (x:=iv u.b) rfl (Ok.c (YI _) λr q=>?_));subst q
    refine Ok.k rfl (Ok.r rfl (x:=iv u.c) rfl (Ok.c (YI _) λr q=>?_));subst q
    refine Ok.o rfl (Ok.o rfl (Ok.o rfl (Ok.o rfl (Ok.o rfl (Ok.o rfl ?_)))))
    refine Ok.k rfl (Ok.r rfl (x:=iv u.e) rfl (Ok.c (YI _) λr q=>?_));subst q
    refine Ok.k rfl (Ok.r rfl (x:=iv u.f) rfl (Ok.c (YI _) λr q=>?_));subst q
    refine Ok.k rfl (Ok.r rfl (x:=iv u.g) rfl (Ok.c (YI _) λr q=>?_));subst q
    refine Ok.o rfl (Ok.o rfl (Ok.o rfl (Ok.o rfl (Ok.o rfl (Ok.o rfl ?_)))))
    refine Ok.k rfl (Ok.r rfl (x:=iv u.h) rfl ?_)
    refine Ok.o rfl (Ok.c (L7 u.e 6 (by decide)) λr q=>?_);subst q
    refine Ok.o rfl (Ok.c (L7 u.e 11 (by decide)) λr q=>?_);subst q
    refine Ok.o rfl (Ok.c (L7 u.e 25 (by decide)) λr q=>?_);subst q
    refine Ok.c (Hb _ _ _) λr q=>?_;subst q
    refine Ok.c (JE _) λr q=>?_;subst q
    refine Ok.o rfl (Ok.o rfl (Ok.c (XL u.e u.f) λr q=>?_));subst q
    refine Ok.o rfl (Ok.c (sN u.e) λr q=>?_);subst q
    refine Ok.o rfl (Ok.c (XL _ u.g) λr q=>?_);subst q
    refine Ok.c (Pw _ _) λr q=>?_;subst q
    refine Ok.c (JE _) λr q=>?_;subst q
    refine Ok.r (by simp) lookK (Ok.k (by grind) (Ok.r rfl lookW ?_))
    refine Ok.c (sO _ _ _ _ _) λr q=>?_;subst q
    refine Ok.o rfl (Ok.c (L7 u.a 2 (by decide)) λr q=>?_);subst q
    refine Ok.o rfl (Ok.c (L7 u.a 13 (by decide)) λr q=>?_);subst q
    refine Ok.o rfl (Ok.c (L7 u.a 22 (by decide)) λr q=>?_);subst q
    refine Ok.c (Hb _ _ _) λr q=>?_;subst q
    refine Ok.c (JE _) λr q=>?_;subst q
    refine Ok.o rfl (Ok.o rfl (Ok.c (XL u.a u.b) λr q=>?_));subst q
    refine Ok.o rfl (Ok.o rfl (Ok.c (XL u.a u.c) λr q=>?_));subst q
    refine Ok.o rfl (Ok.o rfl (Ok.c (XL u.b u.c) λr q=>?_));subst q
    refine Ok.c (Hb _ _ _) λr q=>?_;subst q
    refine Ok.c (JE _) λr q=>?_;subst q
    refine Ok.c (Hc _ _) λr q=>?_;subst q
    refine Ok.c (Hc _ _) λr q=>?_;subst q
    refine Ok.k rfl (Ok.r rfl (x:=iv u.a) rfl (Ok.k rfl (Ok.r rfl (x:=iv u.b) rfl (Ok.k rfl (Ok.r rfl (x:=iv u.c) rfl (Ok.k rfl (Ok.r rfl (x:=iv u.d) rfl (Ok.c (Hc _ _) λr q=>?_))))))))
    subst q
    refine Ok.k rfl (Ok.r rfl (x:=iv u.e) rfl (Ok.k rfl (Ok.r rfl (x:=iv u.f) rfl (Ok.k rfl (Ok.r rfl (x:=iv u.g) rfl (Ok.g (Ok.g (Ok.d ?_))))))))
    show (_,_)=_
    rw[Z8 hk (by decide)]
    rfl
   ·subst hy
    exact Ok.f rfl (Ok.d rfl)
  ·subst he
   generalize Fc KB W v 64=u
   refine Ok.g (Ok.b (R:=λe=>e=l8 (v.add u)) ?_ λe he=>Ok.g (Ok.d he))
   refine Ok.s 8 (by decide) (λk y=>y=((l8 (v.add u)).take k,(k:Int))) rfl (λk y hy hk=>?_) λy hy=>?_
   ·subst hy
    have:k=0\/k=1\/k=2\/k=3\/k=4\/k=5\/k=6\/k=7:=by omega
    rcases this with rfl|rfl|rfl|rfl|rfl|rfl|rfl|rfl
    ·exact Ok.t rfl (Ok.r rfl (x:=iv v.a) rfl (Ok.k rfl (Ok.r rfl (x:=iv u.a) rfl (Ok.c (Hc _ _) λr q=>Ok.app (by grind) (Ok.g (Ok.g (Ok.d (by subst q;rfl))))))))
    ·exact Ok.t rfl (Ok.r rfl (x:=iv v.b) rfl (Ok.k rfl (Ok.r rfl (x:=iv u.b) rfl (Ok.c (Hc _ _) λr q=>Ok.app (by grind) (Ok.g (Ok.g (Ok.d (by subst q;rfl))))))))
    ·exact Ok.t rfl (Ok.r rfl (x:=iv v.c) rfl (Ok.k rfl (Ok.r rfl (x:=iv u.c) rfl (Ok.c (Hc _ _) λr q=>Ok.app (by grind) (Ok.g (Ok.g (Ok.d (by subst q;rfl))))))))
    ·exact Ok.t rfl (Ok.r rfl (x:=iv v.d) rfl (Ok.k rfl (Ok.r rfl (x:=iv u.d) rfl (Ok.c (Hc _ _) λr q=>Ok.app (by grind) (Ok.g (Ok.g (Ok.d (by subst q;rfl))))))))
    ·exact Ok.t rfl (Ok.r rfl (x:=iv v.e) rfl (Ok.k rfl (Ok.r rfl (x:=iv u.e) rfl (Ok.c (Hc _ _) λr q=>Ok.app (by grind) (Ok.g (Ok.g (Ok.d (by subst q;rfl))))))))
    ·exact Ok.t rfl (Ok.r rfl (x:=iv v.f) rfl (Ok.k rfl (Ok.r rfl (x:=iv u.f) rfl (Ok.c (Hc _ _) λr q=>Ok.app (by grind) (Ok.g (Ok.g (Ok.d (by subst q;rfl))))))))
    ·exact Ok.t rfl (Ok.r rfl (x:=iv v.g) rfl (Ok.k rfl (Ok.r rfl (x:=iv u.g) rfl (Ok.c (Hc _ _) λr q=>Ok.app (by grind) (Ok.g (Ok.g (Ok.d (by subst q;rfl))))))))
    ·exact Ok.t rfl (Ok.r rfl (x:=iv v.h) rfl (Ok.k rfl (Ok.r rfl (x:=iv u.h) rfl (Ok.c (Hc _ _) λr q=>Ok.app (by grind) (Ok.g (Ok.g (Ok.d (by subst q;rfl))))))))
   ·subst hy
    exact Ok.f rfl (Ok.d rfl)
def Jj(t:Y0):Prop:=t.gg=l8 vS/\t.fK=J0
theorem xR(t:Y0)(ht:Jj t)(s:za)(hs:s.size<=1000000)(h6:s.size % 64=0)(v:V8):Qz (pJ t (l8 v) s) (λr=>r=l8 (X5 s v)):=by
 unfold pJ
 refine Qz.fn ?_
 unfold Qu7
 refine Ok.b (R:=λe=>e=l8 (X5 s v)) ?_ λe he=>Ok.d he
 refine Ok.s (s.size / 64) (by omega) (λk y=>y=(l8 (UG s v k),((64 * k:Nat):Int))) rfl (λk y hy hk=>?_) λy hy=>?_
 ·subst hy
  have e1:Q0 (((64 * k:Nat):Int)+64)=((64 * k+64:Nat):Int):=by grind [Z3]
  simp only[e1,zL]
  have ez:(s.extract (64 * k) (64 * k+64)).size=64:=by rw[ByteArray.size_extract];omega
  exact Ok.t (by simp;omega) (Ok.k (by simp;omega) (Ok.c (qN t ht.2 _ _ ez) λr hr=>Ok.d (by rw[hr];rfl)))
 grind [Ok.f,Z3,Ok.d,l8,UG,X5]
theorem VB(n:Nat)(x:Int):List.replicate n x++[x]=List.replicate (n+1) x:=by
 rw[List.replicate_succ']
theorem sL(k:Nat)(n:Int)(h0:0<=n)(h:n < 9223372036854775808)(hk:k<=100):Qz (mD (k:Int) n) (λr=>r=strOfNums (YJ k n)):=by
 unfold mD
 refine Qz.fn ?_
 unfold g83
 refine Ok.b (R:=λe=>e=strOfNums (YJ k n)) ?_ λe he=>Ok.d he
 refine Ok.s k (by omega) (λi y=>∃m l,y=(m,strOfNums l,(i:Int))/\0<=m/\m < 9223372036854775808/\l.length=i/\YJ k n=YJ (k - i) m++l) ⟨n,[],rfl,h0,h,rfl,by simp⟩ (λi y hy hi=>?_) λy hy=>?_
 ·obtain⟨m,l,rfl,h1,h2,hl,hb⟩:=hy
  have em:Int.tmod m 256=m % 256:=(by grind)
  have ed:Int.tdiv m 256=m / 256:=(by grind)
  refine Ok.t (by simp;omega) (Ok.k ?_ (Ok.d ⟨m / 256,m % 256 :: l,?_,by omega,by omega,by simp[hl],?_⟩))
  ·simp only[strOfNums_size,zC]
   grind
  ·show (Q0 (Int.tdiv m 256),strOfNums [Qm (Int.tmod m 256)]++strOfNums l,Q0 ((i:Int)+1))=_
   rw[ed,em,Z3 (by omega) (by omega),Z8 hi (by omega),N3,<-S6,show m % 256 % 256=m % 256 by omega]
   rfl
  ·rw[hb,show k - i=(k - (i+1))+1 by omega,YJ]
   simp
 ·obtain⟨m,l,rfl,h1,h2,hl,hb⟩:=hy
  refine Ok.f (by simp) (Ok.d ?_)
  rw[hb,Nat.sub_self]
  rfl
theorem Pk(s:za)(n:Nat)(hs:s.size=n % 64)(hn:n<=1000000):Qz (pY s (n:Int)) (λr=>r=s++pad n):=by
 unfold pY
 refine Qz.fn ?_
 unfold Qu6
 have z1:(bs [128]).size=1:=rfl
 have z0:(bs [0]).size=1:=rfl
 have zr:∀j:Nat,((s++bs [128])++strOfNums (List.replicate j 0)).size=n % 64+1+j:=(by grind [ByteArray.size_append,strOfNums_size,List.length_replicate])
 refine Ok.k (by grind) (Ok.b (R:=λe=>e=(s++bs [128])++strOfNums (List.replicate ((119 - n % 64) % 64) 0)) ?_ λe he=>?_)
 ·refine Ok.s ((119 - n % 64) % 64) (by omega) (λk y=>y=(s++bs [128])++strOfNums (List.replicate k 0)) (ByteArray.append_empty).symm (λk y hy hk=>?_) λy hy=>?_
  ·grind [Int.tmod_eq_emod_of_nonneg,Ok.t,Ok.k,Ok.d,ByteArray.append_assoc,S6,VB,Int.tmod,bs,strOfNums,List.replicate]
  ·subst hy
   have em:Int.tmod (((s++bs [128])++strOfNums (List.replicate ((119 - n % 64) % 64) 0)).size:Int) 64=56:=by grind
   exact Ok.f (by rw[em];rfl) (Ok.d rfl)
 ·subst he
  have e8:Q0 ((8:Int) * (n:Int))=8 * (n:Int):=Z3 (by omega) (by omega)
  refine Ok.b (R:=λe=>e=((s++bs [128])++strOfNums (List.replicate ((119 - n % 64) % 64) 0),strOfNums (YJ 8 (8 * (n:Int))))) ?_ λe he=>?_
  ·refine Ok.s 8 (by decide) (λi y=>∃m l,y=(m,strOfNums l,(i:Int))/\0<=m/\m < 9223372036854775808/\l.length=i/\YJ 8 (8 * (n:Int))=YJ (8 - i) m++l) ⟨8 * (n:Int),[],by rw[e8];rfl,by omega,by omega,rfl,by simp⟩ (λi y hy hi=>?_) λy hy=>?_
   ·obtain⟨m,l,rfl,h1,h2,hl,hb⟩:=hy
    have em:Int.tmod m 256=m % 256:=(by grind)
    have ed:Int.tdiv m 256=m / 256:=(by grind)
    refine Ok.t (by simp;omega) (Ok.k ?_ (Ok.d ⟨m / 256,m % 256 :: l,?_,by omega,by omega,by simp[hl],?_⟩))
    ·simp only[strOfNums_size,zC]
     grind
    ·show (Q0 (Int.tdiv m 256),strOfNums [Qm (Int.tmod m 256)]++strOfNums l,Q0 ((i:Int)+1))=_
     rw[ed,em,Z3 (by omega) (by omega),Z8 hi (by omega),N3,<-S6,show m % 256 % 256=m % 256 by omega]
     rfl
    ·rw[hb,show 8 - i=(8 - (i+1))+1 by omega,YJ]
     simp
   ·obtain⟨m,l,rfl,h1,h2,hl,hb⟩:=hy
    refine Ok.f (by simp) (Ok.d ?_)
    rw[hb,Nat.sub_self]
    rfl
  grind [Ok.k,strOfNums_size,UQ,Ok.d,ByteArray.append_assoc,pad]
theorem cH(v:V8){k:Nat}{x:Int}(h:(l8 v)[k]?=some x):0<=x/\x < 4294967296:=by
 have:=zQ h
 simp only[l8,zO,zT,or_false] at this
 rcases this with rfl|rfl|rfl|rfl|rfl|rfl|rfl|rfl<;>exact V4 _
theorem Cs(v:V8):Qz (pU (l8 v)) (λr=>r=Cn v):=by
 unfold pU
 refine Qz.fn ?_
 unfold Qu8 Cn
 have hl:(l8 v).length=8:=rfl
 have hx:=@cH v
 generalize l8 v=L at hl hx ⊢
 refine Ok.b (R:=λe=>e=strOfNums (L.flatMap (YJ 4))) ?_ λe he=>Ok.d he
 refine Ok.s 8 (by decide) (λk y=>y=(strOfNums ((L.take k).flatMap (YJ 4)),(k:Int))) rfl (λk y hy hk=>?_) λy hy=>?_
 ·subst hy
  obtain⟨x,h1,h2⟩:=E1 (l:=L) (k:=k) (by omega)
  have hr:=hx h2
  have zk:((L.take k).flatMap (YJ 4)).length=4 * k:=by
   rw[List.length_flatMap]
   simp only[UQ,List.map_const',List.sum_replicate_nat,wN,hl]
   omega
  refine Ok.t (by grind [YN]) (Ok.r (by simp) h1 (Ok.c (show Qz _ _ from sL 4 x hr.1 (by omega) (by decide)) λr hr=>?_))
  grind [Ok.k,strOfNums_size,UQ,Ok.d,Z8,S6,List.take_add_one,Q0]
 grind [Ok.f,YN,Ok.d,List.take_of_length_le,strOfNums]
theorem La(t:Y0)(ht:Jj t)(s:za)(hs:s.size<=500000):Qz (nH t s) (λr=>r=Ip s vS):=by
 unfold nH
 refine Qz.fn ?_
 unfold g82
 have e1:Int.tdiv (s.size:Int) 64=((s.size / 64:Nat):Int):=by grind
 have e2:Q0 ((Q0 (Int.tdiv (s.size:Int) 64)) * 64)=((64 * (s.size / 64):Nat):Int):=by
  grind [Z3]
 simp only[e2,zL]
 have hz:(s.extract (64 * (s.size / 64)) s.size).size=s.size % 64:=by rw[ByteArray.size_extract];omega
 have h0:(s.extract 0 (64 * (s.size / 64))).size=64 * (s.size / 64):=by rw[ByteArray.size_extract];omega
 have hm:s.extract 0 (64 * (s.size / 64))++(s.extract (64 * (s.size / 64)) s.size++pad s.size)=s++pad s.size:=by
  rw[<-ByteArray.append_assoc,ByteArray.extract_append_extract,Nat.min_eq_left (by omega),Nat.max_eq_right (by omega),ByteArray.extract_zero_size]
 have hp:=Gg s.size
 have hT:(s++pad s.size).size % 64=0:=by grind
 have hT2:(s++pad s.size).size<=1000000:=by grind
 refine Ok.k (by simp;omega) (Ok.k (by simp;omega) (Ok.c (Pk _ s.size hz (by omega)) λr hr=>?_))
 subst hr
 refine Ok.k (by grind) ?_
 rw[hm,ht.1]
 exact Ok.c (xR t ht _ hT2 hT vS) λr hr=>by subst hr;exact Ok.c (Cs _) λr hr=>Ok.d hr
theorem XO(s:za)(c:Int)(hc:Qm c=c)(hs:s.size<=64):Qz (eP s c) (λr=>r=xk c s):=by
 unfold eP
 refine Qz.fn ?_
 unfold Qyh xk
 have hL:=LA s hs
 generalize G2 (List.replicate 64 (0:Int)) 0 (Q3 s)=L at hL ⊢
 refine Ok.o rfl (Ok.o (r:=()) ?_ (Ok.b (R:=λe=>e=L.map λx=>O2 .u8 x c) ?_ λe he=>Ok.fact (by grind) (Ok.o rfl (Ok.d (by rw[he])))))
 ·show (bif decide (s.size<=64)&&decide (0 < 64) then some () else none)=some ()
  grind
 ·refine Ok.s 64 (by decide) (λk y=>y=((L.take k).map (λx=>O2 .u8 x c)++L.drop k,(k:Int))) rfl (λk y hy hk=>?_) λy hy=>?_
  ·subst hy
   obtain⟨x,hx,hx'⟩:=E1 (l:=L) (k:=k) (by omega)
   have hg:=Bw (f:=λx=>O2 .u8 x c) hx'
   refine Ok.t (by simp;omega) (Ok.k (by simp;omega) (Ok.r rfl hg (Ok.k (by simp;omega) (Ok.r rfl hg (Ok.re (Ok.d ?_))))))
   grind [Z8,map_set,List.set,Q0,O2]
  ·subst hy
   refine Ok.f rfl (Ok.d ?_)
   grind
theorem Ll(t:Y0)(ht:Jj t)(key s:za)(hk:key.size<=100000)(hs:s.size<=100000):Qz (Cz t key s) (λr=>r=N7 key s):=by
 unfold Cz
 refine Qz.fn ?_
 unfold Qyp N7 Ax
 have hz:=Af key vS
 refine Ok.b (R:=λx=>x=C2 key vS) ?_ λx he=>?_
 ·refine Ok.e (λhc=>Ok.c (La t ht key (by omega)) λr hr=>Ok.d ?_) λhc=>Ok.d ?_
  ·have hc:(64:Int) < (key.size:Int):=by simpa using hc
   rw[hr,C2,if_pos (by omega)]
  ·have hc:¬(64:Int) < (key.size:Int):=by simpa using hc
   rw[C2,if_neg (by omega)]
 ·subst he
  have z1:=DE 92 (C2 key vS) hz
  have z2:=DE 54 (C2 key vS) hz
  have z3:=T6 (xk 54 (C2 key vS)++s) vS
  refine Ok.c (XO _ 92 rfl hz) λr h1=>Ok.c (XO _ 54 rfl hz) λr2 h2=>?_
  grind [Ok.k,Ok.c,La,ByteArray.size_append,Ok.d]
theorem Kv(c:Int):Qz (VH c) (λr=>r=WM c):=by
 unfold VH
 refine Qz.fn ?_
 unfold Qje
 refine Ok.n (R:=λr=>r=WM c) ?_ λr hr=>Ok.d hr
 unfold WM
 repeat' grind [Ok.e,Ok.d]
 all_goals grind
theorem aX(c:Int):(!WM c&&((c != 46)&&(c != 45)))=!B8 c:=by
 grind [B8,KF,WM,bne]
theorem XR(b:Z5):Qz (dI b) (λr=>r=O7 b):=by
 unfold dI
 refine Qz.fn ?_
 unfold Qul
 refine Ok.n (R:=λc=>(c=true->R5 b.fA=false)/\(c=false->1<=b.fA.size/\b.fA.size<=32/\(WM (QZ b.fA 0)&&WM (QZ b.fA ((b.fA.size - 1:Nat):Int)))=true)) ?_ λc hc=>?_
 ·refine Ok.e (λh=>Ok.d ⟨λ_=>?_,λh=>(by cases h)⟩) λh=>Ok.e (λh2=>Ok.d ⟨λ_=>?_,λh=>(by cases h)⟩) λh2=>?_
  ·grind [decide_eq_false,R5]
  ·grind [decide_eq_false,R5]
  ·have h0:1<=b.fA.size:=by grind
   have h1:b.fA.size<=32:=by grind
   have e1:Q0 ((b.fA.size:Int) - 1)=((b.fA.size - 1:Nat):Int):=by grind [Z3]
   refine Ok.k (by simp;omega) (Ok.c (Kv _) λr hr=>?_)
   subst hr
   refine Ok.e (λh3=>Ok.d ⟨λ_=>?_,λh=>(by cases h)⟩) λh3=>?_
   ·grind [R5,WM,QZ]
   ·have h3:WM (QZ b.fA 0)=true:=by simpa using h3
    rw[e1]
    grind [Ok.k,Ok.c,Kv,Ok.d,R5,WM,QZ]
 ·refine Ok.e (λh=>Ok.d ?_) λh=>?_
  ·grind [O7]
  ·obtain⟨h0,h1,h2⟩:=hc.2 h
   refine Ok.p (R:=Sum.elim (λ_=>(Q3 b.fA).all B8=false) (λ_=>(Q3 b.fA).all B8=true)) ?_ (λe he=>Ok.d ?_) λe he=>?_
   ·refine Ok.s b.fA.size (by omega) (λk y=>y=(k:Int)/\∀i,i < k->B8 (QZ b.fA (i:Int))=true) (by grind) (λk y hy hk=>?_) λy hy=>?_
    ·obtain⟨rfl,hI⟩:=hy
     refine Ok.t (by simp;omega) (Ok.n (R:=λc=>c=!B8 (QZ b.fA (k:Int))) ?_ λc hc=>?_)
     ·grind [Ok.k,Ok.c,Kv,aX,Ok.e,Ok.d]
     ·subst hc
      refine Ok.e (λh=>Ok.d ?_) λh=>Ok.d ?_
      ·grind [MF,Q3,B8]
      ·refine⟨Z8 hk (by omega),λi hi=>?_⟩
       grind
    ·obtain⟨rfl,hI⟩:=hy
     grind [Ok.f,Ok.d,MF,Q3,B8]
   ·grind [O7,R5,Q3,B8]
   ·have hn:R5 b.fA=true:=by
     grind [decide_eq_true,R5,Q3,B8]
    unfold O7
    rw[hn]
    refine Ok.n (R:=λc=>c=_) ?_ λc hc=>Ok.d hc
    simp only[Bool.true_and]
    repeat' first
     | refine Ok.e (λh=>?_) (λh=>?_)
     | refine Ok.d ?_
    all_goals grind
theorem hC(n:Nat)(v:Int):YJ (n+1) v=(v / 256 ^ n % 256) :: YJ n v:=by
 induction n generalizing v with
 | zero=>simp[YJ]
 | succ n ih=>
  grind [Int.ediv_ediv_of_nonneg,Int.pow_succ,Int.mul_comm,YJ]
theorem Ma(n:Nat)(hn:n<=8)(v:Int)(h0:0<=v)(h:v < 9223372036854775808):Qz (mD (n:Int) v) (λr=>r=Zg n v):=by
 unfold mD
 refine Qz.fn ?_
 unfold g83
 refine Ok.b (R:=λe=>e=Zg n v) ?_ λe he=>Ok.d he
 refine Ok.s n (by omega) (λk y=>y=(v / 256 ^ k,Zg k v,(k:Int))) (by rw[Int.pow_zero,Int.ediv_one];rfl) (λk y hy hk=>?_) λy hy=>?_
 ·subst hy
  have hp:(0:Int) < 256 ^ k:=Int.pow_pos (by decide)
  have hv:0<=v / 256 ^ k:=Int.ediv_nonneg h0 (by omega)
  have hv2:v / 256 ^ k<=v:=Int.ediv_le_self _ h0
  have e1:Qm (Int.tmod (v / 256 ^ k) 256)=v / 256 ^ k % 256:=by rw[N3,Int.tmod_eq_emod_of_nonneg hv];omega
  have e2:Q0 (Int.tdiv (v / 256 ^ k) 256)=v / 256 ^ (k+1):=by
   grind [Int.tdiv_eq_ediv_of_nonneg,Int.pow_succ,Int.ediv_ediv_of_nonneg,Z3]
  refine Ok.t (by simp;omega) (Ok.k ?_ (Ok.d ?_))
  ·simp only[W4,B4,List.length_singleton,zC];omega
  ·show (_,_,_)=(_,_,_)
   rw[e1,e2,Z8 hk (by omega)]
   have:strOfNums [v / 256 ^ k % 256]++Zg k v=Zg (k+1) v:=by
    unfold Zg
    rw[hC,<-S6];rfl
   rw[this]
 ·subst hy
  exact Ok.f (by simp) (Ok.d rfl)
theorem XP(b:Z5)(hv:O7 b=true):Qz (BV b) (λr=>r=X8 b):=by
 obtain⟨h1,h2,h3,h4,h5,h6,h7⟩:=G0 hv
 obtain⟨z1,z2⟩:=N6 h1
 have hh:bs [102,100]++Zg 1 1=Fv:=by decide
 unfold BV
 refine Qz.fn ?_
 unfold g45
 refine Ok.c (Ma 1 (by decide) 1 (by decide) (by decide)) λr0 e0=>Ok.k ?_ (Ok.c (Ma 6 (by decide) b.fO h6 (by omega)) λr1 e1=>Ok.k ?_ (Ok.c (Ma 6 (by decide) b.fG h3 (by omega)) λr2 e2=>Ok.k ?_ (Ok.c (Ma 6 (by decide) b.fH (by omega) (by omega)) λr3 e3=>Ok.k ?_ (Ok.c (Ma 1 (by decide) (b.fA.size:Int) (by omega) (by omega)) λr4 e4=>Ok.k ?_ (Ok.k ?_ (Ok.k ?_ (Ok.d ?_)))))))
 all_goals subst_vars
 all_goals try simp only[hh,ByteArray.size_append,B4,Nq,zC,show (bs [102,100]).size=2 from rfl,h2]
 iterate 7
  ·omega
 ·rfl
theorem iC{l:List Int}(h:∀c,c∈l->0<=c/\c < 256):YJ l.length (num l)=l:=by
 have key:∀(n:Nat) (l:List Int),l.length=n->(∀c,c∈l->0<=c/\c < 256)->YJ n (num l)=l:=by
  intro n
  induction n with
  | zero=>intro l hl _;rw[wY.1 hl];rfl
  | succ n ih=>
   intro l hl hb
   have hne:l≠[]:=(by grind)
   have e:=List.dropLast_concat_getLast hne
   rw[<-e,Mn]
   have hc:=hb (l.getLast hne) (List.getLast_mem hne)
   rw[YJ,show (num l.dropLast * 256+l.getLast hne) / 256=num l.dropLast by omega,show (num l.dropLast * 256+l.getLast hne) % 256=l.getLast hne by omega,ih l.dropLast (by rw[List.length_dropLast];omega) λc hc=>hb c (List.dropLast_subset _ hc)]
 grind
theorem DT{s:za}{a n:Nat}(h:a+n<=s.size):Zg n (num (Q3 (s.extract a (a+n))))=s.extract a (a+n):=by
 have hl:(Q3 (s.extract a (a+n))).length=n:=by rw[D7,ByteArray.size_extract];omega
 have:=iC (l:=Q3 (s.extract a (a+n))) λc hc=>Wn hc
 grind [YO,Zg]
theorem iO{a b c:za}:(a++b++c).extract a.size (a.size+b.size)=b:=by
 rw[ByteArray.extract_append,ByteArray.extract_append]
 have e1:a.extract a.size (a.size+b.size)=zd:=by simp_all
 have e2:b.extract (a.size - a.size) (a.size+b.size - a.size)=b:=by
  simp_all
 grind [ByteArray.extract_eq_empty_iff,ByteArray.size_append,ByteArray.empty_append,ByteArray.append_empty,ByteArray.empty]
theorem uU{s:za}{a b c:Nat}(h1:a<=b)(h2:b<=c):s.extract a b++s.extract b c=s.extract a c:=by
 grind [ByteArray.ext,ByteArray.data_append,ByteArray.data_extract,Nat.min_eq_left,Nat.max_eq_right]
theorem uA{s:za}(h:okB s=true):X8 (Zo s)=s:=by
 unfold okB at h
 simp only[zD,zC] at h
 obtain⟨h1,h2,h3,h4⟩:=h
 have hb:=I4 s 21
 have hn:(s.extract 22 (22+UI s)).size=UI s:=by simp_all
 have e1:Zg 1 ((s.extract 22 (22+UI s)).size:Int)=s.extract 21 22:=by
  rw[hn]
  have:=bX (s:=s) (a:=21) (by omega)
  rw[show ((UI s:Nat):Int)=QZ s 21 by unfold UI;omega,<-show num (Q3 (s.extract 21 22))=QZ s 21 from this]
  exact DT (s:=s) (a:=21) (n:=1) (by omega)
 have n1:Zg 6 (num (Q3 (s.extract 3 9)))=s.extract 3 9:=DT (a:=3) (n:=6) (by omega)
 have n2:Zg 6 (num (Q3 (s.extract 9 15)))=s.extract 9 15:=DT (a:=9) (n:=6) (by omega)
 have n3:Zg 6 (num (Q3 (s.extract 15 21)))=s.extract 15 21:=DT (a:=15) (n:=6) (by omega)
 show Fv++Zg 6 (num (Q3 (s.extract 3 9)))++Zg 6 (num (Q3 (s.extract 9 15)))++Zg 6 (num (Q3 (s.extract 15 21)))++Zg 1 ((s.extract 22 (22+UI s)).size:Int)++s.extract 22 (22+UI s)++s.extract (22+UI s) (54+UI s)=s
 grind [uU,ByteArray.extract_zero_size]
theorem yP{b:Z5}(hv:O7 b=true):okB (X8 b)=true/\Zo (X8 b)=b:=by
 obtain⟨h1,h2,h3,h4,h5,h6,h7⟩:=G0 hv
 obtain⟨z1,z2⟩:=N6 h1
 have hz:=Wv hv
 have pick:∀(x y z:za) (a:Nat),a=x.size->(x++y++z).extract a (a+y.size)=y:=(by grind [iO])
 have g3:(X8 b).extract 0 3=Fv:=by
  have:X8 b=zd++Fv++(Zg 6 b.fO++Zg 6 b.fG++Zg 6 b.fH++Zg 1 (b.fA.size:Int)++b.fA++b.fL):=by grind [ByteArray.append_assoc,ByteArray.empty_append,X8]
  rw[this];exact pick _ _ _ 0 rfl
 have gn:(X8 b).extract 3 9=Zg 6 b.fO:=by
  have:X8 b=Fv++Zg 6 b.fO++(Zg 6 b.fG++Zg 6 b.fH++Zg 1 (b.fA.size:Int)++b.fA++b.fL):=by grind [ByteArray.append_assoc,X8]
  rw[this];have:=pick Fv (Zg 6 b.fO) (Zg 6 b.fG++Zg 6 b.fH++Zg 1 (b.fA.size:Int)++b.fA++b.fL) 3 rfl;rwa [B4] at this
 have gf:(X8 b).extract 9 15=Zg 6 b.fG:=by
  grind [ByteArray.append_assoc,ByteArray.size_append,B4,X8,Fv,Zg]
 have gu:(X8 b).extract 15 21=Zg 6 b.fH:=by
  grind [ByteArray.append_assoc,ByteArray.size_append,B4,X8,Fv,Zg]
 have gl:(X8 b).extract 21 22=Zg 1 (b.fA.size:Int):=by
  grind [ByteArray.append_assoc,ByteArray.size_append,B4,X8,Fv,Zg]
 have hN:UI (X8 b)=b.fA.size:=by
  have h8:=bX (s:=X8 b) (a:=21) (by omega)
  rw[show (X8 b).extract 21 (21+1)=Zg 1 (b.fA.size:Int) from gl] at h8
  have h9:num (Q3 (Zg 1 (b.fA.size:Int)))=(b.fA.size:Int):=by
   unfold Zg
   rw[R4 (NH 1 _)]
   grind [SV]
  rw[h9] at h8
  unfold UI
  grind
 have nb:∀v:Int,0<=v->v < 281474976710656->num (Q3 (Zg 6 v))=v:=λv h0 h=>by
  unfold Zg
  rw[R4 (NH 6 _)]
  grind [SV]
 have gm:(X8 b).extract 22 (22+b.fA.size)=b.fA:=by
  have:X8 b=(Fv++Zg 6 b.fO++Zg 6 b.fG++Zg 6 b.fH++Zg 1 (b.fA.size:Int))++b.fA++b.fL:=rfl
  grind
 have gk:(X8 b).extract (22+b.fA.size) (54+b.fA.size)=b.fL:=by
  have:X8 b=(Fv++Zg 6 b.fO++Zg 6 b.fG++Zg 6 b.fH++Zg 1 (b.fA.size:Int)++b.fA)++b.fL++zd:=by rw[ByteArray.append_empty];rfl
  rw[this]
  have:=pick (Fv++Zg 6 b.fO++Zg 6 b.fG++Zg 6 b.fH++Zg 1 (b.fA.size:Int)++b.fA) b.fL zd (22+b.fA.size) (by simp only[ByteArray.size_append,B4];rfl)
  grind
 have e:Zo (X8 b)=b:=by
  unfold Zo
  rw[hN,gm,gk,gn,gf,gu,nb _ h6 (by omega),nb _ h3 (by omega),nb _ (by omega) (by omega)]
 refine⟨?_,e⟩
 unfold okB
 grind
theorem Mi(s:za):Qz (s69 s) (λr=>r=YK s):=by
 unfold s69
 refine Qz.fn ?_
 unfold g69
 have szs:okB s=true->55<=s.size/\s.size<=86:=λh=>by
  have e:=Wv (b:=Zo s) (by simp_all [zD,okB])
  rw[uA h] at e
  obtain⟨z1,z2⟩:=N6 (G0 (b:=Zo s) (by simp_all [zD,okB])).1
  omega
 have bad:okB s=false->YK s=(zB,5):=(by grind [YK])
 refine Ok.n (R:=λc=>c=decide (s.size < 55\/86 < s.size)) (Ok.e (λh=>Ok.d ?_) λh=>Ok.d ?_) λc hc=>?_
 ·grind
 ·grind
 subst hc
 refine Ok.e (λh=>Ok.d ?_) λh=>?_
 ·rw[zC] at h
  rw[bad ?_];rfl
  grind
 ·rw[decide_eq_false_iff_not] at h
  have e0:Q0 ((s.size:Int) - 32)=((s.size - 32:Nat):Int):=by grind [Z3]
  rw[e0]
  simp only[zL]
  have hz:∀a b:Nat,a<=b->b<=a+7->(s.extract a b).size<=7:=(by grind [ByteArray.size_extract])
  refine Ok.k (by simp;omega) (Ok.c (DL _ (hz 3 9 (by omega) (by omega))) λr1 e1=>Ok.k (by simp;omega) (Ok.c (DL _ (hz 9 15 (by omega) (by omega))) λr2 e2=>Ok.k (by simp;omega) (Ok.c (DL _ (hz 15 21 (by omega) (by omega))) λr3 e3=>Ok.k (by simp;omega) (Ok.k (by simp) ?_))))
  subst e1 e2 e3
  generalize hb:Z5.mk (s.extract 22 (s.size - 32)) (s.extract (s.size - 32) s.size) (num (Q3 (s.extract 9 15))) (num (Q3 (s.extract 15 21))) (num (Q3 (s.extract 3 9)))=b
  have hm:s.size=54+UI s->Zo s=b:=(by grind [Zo,UI])
  have key:okB s=(O7 b&&decide (X8 b=s)):=by
   cases ho:okB s with
   | true=>
    have h1:=ho
    unfold okB at h1
    simp only[zD,zC] at h1
    grind [uA]
   | false=>
    symm
    cases hv:O7 b with
    | false=>rfl
    | true=>
     rw[Bool.true_and]
     grind [decide_eq_false,yP]
  refine Ok.n (R:=λc=>c=!okB s) ?_ λc hc=>?_
  ·grind [Ok.c,XR,Ok.e,Ok.d,XP,O7]
  ·subst hc
   refine Ok.e (λh=>Ok.d ?_) λh=>Ok.d ?_
   ·rw[bad (by simpa using h)];rfl
   simp_all [zD,zC,okB,YK]
theorem qE:((List.range 256).all λn=>decide ((g81 (n:Int)).run=some (Dt (n:Int))))=true:=by kernel_rfl
theorem CZ(c:Int)(h:0<=c/\c < 256):Qz (s81 c) (λr=>r=Dt c):=by
 unfold s81
 refine Qz.fn ?_
 obtain⟨n,rfl⟩:=Int.eq_ofNat_of_zero_le h.1
 have:=zG.1 qE n (by simp;omega)
 exact⟨_,by grind,rfl⟩
def ZF(c:Int):Int:=if 48<=c/\c<=57 then c - 48 else if 65<=c/\c<=70 then c - 55 else -1
theorem Tk:((List.range 256).all λn=>(Qjb (n:Int)).run==some (ZF (n:Int)))=true:=by kernel_rfl
theorem XS(c:Int)(h:0<=c/\c < 256):Qz (dK c) (λr=>r=ZF c):=by
 unfold dK
 refine Qz.fn ?_
 obtain⟨n,rfl⟩:=Int.eq_ofNat_of_zero_le h.1
 have:=zG.1 Tk n (by simp;omega)
 exact⟨_,by grind,rfl⟩
theorem uF(c:Int):decide (ZF c < 0)=!Mt c:=by
 unfold ZF Mt
 grind
theorem jD:((List.range 256).all λa=>(List.range 256).all λb=>!(Mt (a:Int)&&Mt (b:Int)) || (Tv (16 * ZF (a:Int)+ZF (b:Int))==(a:Int)&&(Tt (16 * ZF (a:Int)+ZF (b:Int))==(b:Int)&&decide (16 * ZF (a:Int)+ZF (b:Int) < 256/\0<=16 * ZF (a:Int)+ZF (b:Int)))))=true:=by kernel_rfl
theorem Bf{a b:Int}(ha:0<=a/\a < 256)(hb:0<=b/\b < 256)(h1:Mt a=true)(h2:Mt b=true):Tv (16 * ZF a+ZF b)=a/\Tt (16 * ZF a+ZF b)=b/\0<=16 * ZF a+ZF b/\16 * ZF a+ZF b < 256:=by
 obtain⟨n,rfl⟩:=Int.eq_ofNat_of_zero_le ha.1
 obtain⟨m,rfl⟩:=Int.eq_ofNat_of_zero_le hb.1
 have:=zG.1 (zG.1 jD n (by simp;omega)) m (by simp;omega)
 grind
theorem qU(c:Int):(Dt c).size=2:=by unfold Dt;rw[W4];rfl
theorem OS(l:List Int):(KL l).length=3 * l.length - 1:=by
 induction l with
 | nil=>rfl
 | cons c l ih=>
  cases l with
  | nil=>rfl
  | cons d l=>
   grind [List.length_cons,KL]
theorem Kc(s:za)(hs:s.size<=100000):Qz (s42 s) (λr=>r=I7 s):=by
 unfold s42
 refine Qz.fn ?_
 unfold g42
 refine Ok.b (R:=λe=>e=I7 s) ?_ λe he=>Ok.d he
 refine Ok.s s.size (by omega) (λk y=>y=(ZS++strOfNums (KL ((Q3 s).take k)),(k:Int))) rfl (λk y hy hk=>?_) λy hy=>?_
 ·subst hy
  have hlen:((Q3 s).take k).length=k:=by rw[wN,D7];omega
  have hz:(ZS++strOfNums (KL ((Q3 s).take k))).size<=8+3 * k:=by
   rw[ByteArray.size_append,W4,OS,hlen]
   show 8+_<=_
   omega
  have hnil:((Q3 s).take k=[])↔k=0:=by grind
  refine Ok.t (by simp;omega) (Ok.b (R:=λe=>e=ZS++strOfNums (if (Q3 s).take k=[] then [] else KL ((Q3 s).take k)++[58])/\e.size<=9+3 * k) ?_ λe he=>?_)
  ·refine Ok.e (λh=>Ok.k ?_ (Ok.d ?_)) λh=>Ok.d ?_
   ·rw[zC];show (ZS++strOfNums (KL ((Q3 s).take k))).size+1<=_;omega
   ·have h:0 < k:=by simpa using h
    rw[if_neg (λe=>by rw[hnil] at e;omega)]
    refine⟨by rw[S6,<-ByteArray.append_assoc];rfl,?_⟩
    rw[ByteArray.size_append];show (ZS++strOfNums (KL ((Q3 s).take k))).size+1<=_;omega
   ·have h:k=0:=by grind
    rw[if_pos (hnil.2 h)]
    subst h
    exact⟨rfl,Nat.le_trans hz (by omega)⟩
  ·obtain⟨rfl,hz2⟩:=he
   refine Ok.k (by simp;omega) (Ok.c (CZ _ (I4 _ _)) λr hr=>?_)
   subst hr
   refine Ok.k ?_ (Ok.d ?_)
   ·rw[zC,qU];omega
   ·show (_,_)=(_,_)
    rw[Z8 hk (by omega),List.take_add_one,T8 hk]
    show (_,_)=(ZS++strOfNums (KL ((Q3 s).take k++[QZ s (k:Int)])),_)
    rw[Vv,S6,<-ByteArray.append_assoc]
    rfl
 ·subst hy
  refine Ok.f (by simp) (Ok.d ?_)
  rw[List.take_of_length_le (by rw[D7];omega)]
  rfl
def MC(p:za)(i:Nat):Int:=16 * ZF (QZ p ((8+3 * i:Nat):Int))+ZF (QZ p ((9+3 * i:Nat):Int))
def WN(p:za)(i:Nat):Bool:=Mt (QZ p ((8+3 * i:Nat):Int))&&Mt (QZ p ((9+3 * i:Nat):Int))
theorem Sc:∀(l:List Int) (i:Nat) (c:Int),l[i]?=some c->(KL l)[3 * i]?=some (Tv c)/\(KL l)[3 * i+1]?=some (Tt c)/\(i+1 < l.length->(KL l)[3 * i+2]?=some 58)
 | [],i,c,h=>by simp at h
 | [x],i,c,h=>by
  cases i with
  | zero=>simp at h;subst h;exact⟨rfl,rfl,λh=>by simp at h⟩
  | succ i=>simp at h
 | x :: y :: l,i,c,h=>by
  cases i with
  | zero=>simp at h;subst h;exact⟨rfl,rfl,λ_=>rfl⟩
  | succ i=>
   have ih:=Sc (y :: l) i c (by simpa using h)
   grind [KL]
theorem BB{p:za}(hp:p.size=103)(hx:∀i,i < 32->WN p i=true):decide (I7 (strOfNums ((List.range 32).map (MC p)))=p)=YA p:=by
 have hx1:∀i,i < 32->Mt (QZ p ((8+3 * i:Nat):Int))=true/\Mt (QZ p ((9+3 * i:Nat):Int))=true:=λi hi=>by
  simp_all [zD,WN]
 have two:=λi hi=>Bf (I4 p ((8+3 * i:Nat):Int)) (I4 p ((9+3 * i:Nat):Int)) (hx1 i hi).1 (hx1 i hi).2
 have ho:Q3 (strOfNums ((List.range 32).map (MC p)))=(List.range 32).map (MC p):=R4 λc hc=>by
  obtain⟨i,hi,rfl⟩:=zH.1 hc
  have:=two i (by simpa using hi)
  exact⟨this.2.2.1,this.2.2.2⟩
 generalize hV:(List.range 32).map (MC p)=V at ho
 have hVl:V.length=32:=by grind
 have hVg:∀i,i < 32->V[i]?=some (MC p i):=(by grind)
 have hrng:∀c,c∈KL V->0<=c/\c < 256:=by
  have gen:∀l:List Int,∀c,c∈KL l->0<=c/\c < 256:=by
   intro l
   induction l with
   | nil=>grind [KL]
   | cons x l ih=>
    cases l with
    | nil=>
     intro c hc
     simp only[KL,zO,zT,or_false] at hc
     rcases hc with rfl|rfl<;>exact I4 _ _
    | cons y l=>
     intro c hc
     simp only[KL,zO] at hc
     rcases hc with rfl|rfl|rfl|hc
     ·exact I4 _ _
     ·exact I4 _ _
     ·decide
     grind
  exact gen V
 have hS:Q3 (I7 (strOfNums V))=Q3 ZS++KL V:=by simp_all [KQ,R4,I7]
 have hSz:(I7 (strOfNums V)).size=103:=by
  rw[<-D7,hS,wD,OS,hVl];rfl
 have at0:∀i:Nat,i < 8->QZ (I7 (strOfNums V)) (i:Int)=QZ ZS (i:Int):=λi hi=>by
  have h1:=T8 (s:=I7 (strOfNums V)) (k:=i) (by omega)
  rw[hS,wg (by rw[D7];exact hi),T8 (by exact hi)] at h1
  grind
 have at8:∀i:Nat,i < 95->some (QZ (I7 (strOfNums V)) ((8+i:Nat):Int))=(KL V)[i]?:=λi hi=>by
  rw[<-T8 (s:=I7 (strOfNums V)) (k:=8+i) (by omega),hS,wl (by rw[D7];show 8<=_;omega)]
  rw[D7,show 8+i - ZS.size=i from by show 8+i - 8=i;omega]
 have pt:∀i:Nat,i < 95->(QZ (I7 (strOfNums V)) ((8+i:Nat):Int)=QZ p ((8+i:Nat):Int)↔TQ i (QZ p ((8+i:Nat):Int))=true):=λi hi=>by
  have h1:=at8 i hi
  obtain⟨g0,g1,g2⟩:=Sc V (i / 3) (MC p (i / 3)) (hVg (i / 3) (by omega))
  obtain⟨t0,t1,_⟩:=two (i / 3) (by omega)
  have hx2:=hx1 (i / 3) (by omega)
  unfold TQ
  by_cases c2:i % 3=2
  ·grind
  ·rw[if_neg c2]
   by_cases c0:i % 3=0
   ·rw[show 3 * (i / 3)=i by omega] at g0 t0 hx2
    rw[g0] at h1
    rw[zW h1]
    have:Tv (MC p (i / 3))=QZ p ((8+i:Nat):Int):=by grind [MC]
    grind
   ·have hi3:i=3 * (i / 3)+1:=by omega
    grind [Option.some.inj,Tt,MC,QZ]
 rw[Bool.eq_iff_iff,zC]
 unfold YA
 rw[zR hp,Bool.true_and,zD,zC,zG]
 constructor
 ·intro h
  refine⟨?_,(by grind)⟩
  refine Fa (by rw[ByteArray.size_extract];show min 8 p.size - 0=8;omega) λi hi=>?_
  have hi:i < 8:=by rw[ByteArray.size_extract] at hi;omega
  rw[DV (by omega) (by omega),zP,<-at0 i hi,h]
 ·intro ⟨h1,h2⟩
  refine Fa (by omega) λi hi=>?_
  by_cases h8:i < 8
  ·rw[at0 i h8,<-h1,DV (by omega) (by omega),zP]
  ·have:=(pt (i - 8) (by omega)).2 (h2 (i - 8) (by simp;omega))
   rwa [show 8+(i - 8)=i by omega] at this
theorem XN(p:za)(hs:p.size<=1000000):Qz (dG p) (λr=>r=YA p):=by
 unfold dG
 refine Qz.fn ?_
 unfold Qh1
 refine Ok.e (λh=>Ok.d ?_) λh=>?_
 ·grind [decide_eq_false,YA]
 ·have hp:p.size=103:=by grind
  refine Ok.p (R:=Sum.elim (λ_=>YA p=false) (λe=>e=strOfNums ((List.range 32).map (MC p))/\∀i,i < 32->WN p i=true)) ?_ (λe he=>Ok.d he.symm) λe he=>?_
  ·refine Ok.s 32 (by decide) (λk y=>y=(strOfNums ((List.range k).map (MC p)),(k:Int))/\∀i,i < k->WN p i=true) ⟨rfl,(by grind)⟩ (λk y hy hk=>?_) λy hy=>?_
   ·obtain⟨rfl,hI⟩:=hy
    have e3:Q0 ((3:Int) * (k:Int))=((3 * k:Nat):Int):=by grind [Z3]
    have e8:Q0 ((8:Int)+((3 * k:Nat):Int))=((8+3 * k:Nat):Int):=by grind [Z3]
    have e9:Q0 ((9:Int)+((3 * k:Nat):Int))=((9+3 * k:Nat):Int):=by grind [Z3]
    refine Ok.t (by simp;omega) ?_
    rw[e3,e8,e9]
    have b1:=I4 p ((8+3 * k:Nat):Int)
    have b2:=I4 p ((9+3 * k:Nat):Int)
    refine Ok.k (by simp;omega) (Ok.c (XS _ b1) λr1 h1=>Ok.k (by simp;omega) (Ok.c (XS _ b2) λr2 h2=>?_))
    subst h1 h2
    refine Ok.n (R:=λc=>c=!WN p k) ?_ λc hc=>?_
    ·grind [Bool.not_and,uF,Ok.e,Ok.d,WN]
    ·subst hc
     refine Ok.e (λh=>Ok.d ?_) λh=>?_
     ·have h:WN p k=false:=by simpa using h
      show YA p=false
      cases hpr:YA p with
      | false=>rfl
      | true=>
       unfold YA at hpr
       simp only[zD,zC,zG] at hpr
       have q1:=hpr.2.2 (3 * k) (by simp;omega)
       have q2:=hpr.2.2 (3 * k+1) (by simp;omega)
       unfold TQ at q1 q2
       rw[if_neg (by omega)] at q1 q2
       grind [WN]
     ·have h:WN p k=true:=by simpa using h
      have h':=h
      unfold WN at h'
      rw[zD] at h'
      obtain⟨_,_,v0,v1⟩:=Bf b1 b2 h'.1 h'.2
      have ev:Qm (Q0 ((Q0 ((16:Int) * ZF (QZ p ((8+3 * k:Nat):Int))))+ZF (QZ p ((9+3 * k:Nat):Int))))=MC p k:=by
       grind [Z3,N3,ZF,QZ,MC]
      rw[ev]
      refine Ok.k ?_ (Ok.d ⟨?_,λi hi=>?_⟩)
      ·rw[W4,W4,zC];simp;omega
      ·rw[Z8 hk (by decide),List.range_succ,wE,S6];rfl
      grind
   ·obtain⟨rfl,hI⟩:=hy
    exact Ok.f rfl (Ok.d ⟨rfl,hI⟩)
  ·obtain⟨rfl,hI⟩:=he
   grind [Ok.c,Kc,W4,Ok.d,BB]
theorem oP{t:Y0}(h:t=Y0.mk Ey J0):Jj t:=by subst h;exact⟨by kernel_rfl,rfl⟩
theorem Kt(b:Z5)(hv:O7 b=true):Qz (s44 b) (λr=>r=I7 (He (X8 b))):=by
 have hz:=Wv hv
 obtain⟨n1,n2⟩:=N6 (G0 hv).1
 unfold s44
 refine Qz.fn ?_
 unfold g44
 refine Ok.c IS λt ht=>Ok.c (XP b hv) λr hr=>?_
 subst hr
 refine Ok.c (La t (oP ht) (X8 b) (by omega)) λr hr=>?_
 subst hr
 exact Ok.c (Kc _ (by rw[T6];decide)) λr hr=>Ok.d hr
theorem Po(b:Z5)(l:List za)(hl:∀p,p∈l->p.size<=1000000):Qz (nR b l) (λr=>r.2=CK b l):=by
 unfold nR
 refine Qz.fn ?_
 unfold Qyb CK
 refine Ok.c (XR b) λr hr=>?_
 subst hr
 refine Ok.e (λh=>Ok.d ?_) λh=>?_
 ·rw[h];rfl
 ·rw[h]
  have hv:O7 b=true:=by simpa using h
  refine Ok.e (λh=>Ok.d ?_) λh=>?_
  ·grind [E3,decide]
  ·have hn:l.length<=8:=by grind [E3]
   rw[show decide (8 < l.length)=false from by simp;omega]
   refine Ok.p (R:=Sum.elim (λ_=>(l.any λx=>!YA x)=true) (λ_=>(l.any λx=>!YA x)=false)) ?_ (by grind [Ok.d,YA]) λe he=>?_
   ·refine Ok.s l.length (by omega) (λk y=>y=(k:Int)/\((l.take k).any λx=>!YA x)=false) ⟨rfl,rfl⟩ (λk y hy hk=>?_) λy hy=>?_
    ·obtain⟨rfl,h1⟩:=hy
     obtain⟨x,hx,hx'⟩:=E1 (l:=l) (k:=k) hk
     grind [B6,Ok.t,E3,Ok.r,Ok.c,XN,List.mem_of_getElem?,Ok.e,Ok.d,O4,Z8]
    ·obtain⟨rfl,h1⟩:=hy
     grind [List.take_length,Ok.f,E3,Ok.d]
   ·rw[show (l.any λx=>!YA x)=false from he]
    refine Ok.c (Kt b hv) λp hp=>?_
    subst hp
    generalize I7 (He (X8 b))=p
    refine Ok.p (R:=Sum.elim (λ_=>(l.any λx=>decide (p=x))=true) (λ_=>(l.any λx=>decide (p=x))=false)) ?_ (by grind [Ok.d,decide]) (by grind [Ok.d,decide])
    refine Ok.s l.length (by omega) (λk y=>y=(k:Int)/\((l.take k).any λx=>decide (p=x))=false) ⟨rfl,rfl⟩ (λk y hy hk=>?_) λy hy=>?_
    ·obtain⟨rfl,h1⟩:=hy
     obtain⟨x,hx,hx'⟩:=E1 (l:=l) (k:=k) hk
     have h2:=B6 hx' h1
     have hc:decide (x=p)=decide (p=x):=by grind
     grind [Ok.t,E3,Ok.r,Ok.e,Ok.d,O4,Z8]
    ·obtain⟨rfl,h1⟩:=hy
     grind [List.take_length,Ok.f,E3,Ok.d]
theorem GY(b:Z5)(l:List za)(now:Int)(hl:∀p,p∈l->p.size<=1000000):Qz (dH b l now) (λr=>r=UP b l now):=by
 unfold dH
 refine Qz.fn ?_
 unfold Qjh UP
 refine Ok.c (Po b l hl) λr hr=>?_
 rw[hr]
 refine Ok.e (by grind [Ok.d]) λh=>?_
 rw[h]
 refine Ok.n (R:=λc=>c=(decide (now < 0) || decide (1099511627776 < now))) (by grind [Ok.e,Ok.d]) λc hc=>?_
 subst hc
 refine Ok.e (by grind [Ok.d]) λh=>?_
 rw[h]
 refine Ok.n (R:=λc=>c=(decide (now < b.fG) || decide (b.fH < now))) (by grind [Ok.e,Ok.d]) λc hc=>?_
 grind [Ok.e,Ok.d]
theorem Ua(s:za):Qz (My s) (λr=>r=okB s):=by
 grind [oF,Qz.fn,Ok.c,Mi,Ok.d,My,Qh3,YK,okB]
def SW(p:U1)(k:Int):Bool:=if k=0 then WC p.fB&&(WC p.fQ&&WC p.fh) else if k=1 then UM p.fB&&(UM p.fQ&&WC p.fh) else UM p.fB&&(UM p.fQ&&okB p.fh)
theorem Ct(p:U1)(k:Int):Qz (rN p k) (λr=>r=SW p k):=by
 unfold rN
 refine Qz.fn ?_
 unfold Qjs SW
 refine Ok.e (λh=>Ok.d ?_) λh=>Ok.e (λh2=>?_) λh2=>?_
 ·rw[if_pos (by simpa using h),Bool.and_true];rfl
 ·rw[if_neg (by simpa using h),if_pos (by simpa using h2)]
  refine Ok.n (R:=λc=>c=_) ?_ λc hc=>Ok.d hc
  rw[<-int32,<-int32]
  exact Y7 λ_=>Y7 λ_=>Ok.d rfl
 ·rw[if_neg (by simpa using h),if_neg (by simpa using h2)]
  refine Ok.n (R:=λc=>c=_) ?_ λc hc=>Ok.d hc
  rw[<-int32,<-int32]
  exact Y7 λ_=>Y7 (by grind [Ok.c,Ua,Ok.d])
theorem Cv(s:Q4)(k:Int):Qz (rG s k) (λr=>r=UO s k):=by
 unfold rG
 refine Qz.fn ?_
 unfold Qjp UO
 refine Ok.e (λh=>Ok.d ?_) λh=>?_
 ·rw[if_pos (by simpa using h),E3,Bool.eq_iff_iff];simp
 ·rw[if_neg (by simpa using h)]
  refine Ok.n (R:=λc=>c=_) ?_ λc hc=>Ok.d hc
  refine Ok.e (λh2=>?_) λh2=>Ok.d ?_
  ·obtain⟨n,hn⟩:=GS (l:=s.fo) (by rw[E3] at h2;simp at h2;omega)
   rw[hn]
   refine Ok.r rfl rfl (Ok.c (XG n) λr hr=>?_)
   show Ok _ (λc=>c=(S7 n&&(n.fp==k&&n.fR==Q0 (s.fm - 1))))
   rw[<-hr]
   exact Y7 λ_=>Ok.r rfl rfl (Y7 λ_=>Ok.r rfl rfl (Ok.d rfl))
  grind [E3]
def Bv(s:Q4)(least most told known last:Int)(timer:Bool):Bool:=decide (least<=s.fm)&&(decide (s.fm<=most)&&((s.fE.size:Int)==told&&(timer==decide (0<=s.fC.fq)&&(Mm s known&&UO s last))))
theorem Gf(s:Q4)(k:Int)(hk:k=0\/k=1\/k=2):(SW s.fk k&&(((s.fI.size:Int)==32)==(k==2)&&!(WC s.fI==(k==2))))=Mm s k:=by
 have e0:WC s.fI=decide (s.fI.size=0):=by unfold WC;simp_all
 unfold SW Mm
 rw[int32]
 rcases hk with rfl|rfl|rfl
 ·simp only[if_true]
  grind [Bool.and_assoc,decide_eq_false,UM]
 ·simp only[show ¬(1:Int)=0 by decide,if_true,if_false]
  grind [Bool.and_assoc,decide_eq_false,UM]
 ·simp only[show ¬(2:Int)=0 by decide,show ¬(2:Int)=1 by decide,if_false]
  grind [decide_eq_false,UM]
theorem Lr(s:Q4)(least most told known last:Int)(timer:Bool)(ht:0<=told)(hk:known=0\/known=1\/known=2):Qz (Dn s least most told known (known==2) last timer) (λr=>r=Bv s least most told known last timer):=by
 unfold Dn
 refine Qz.fn ?_
 unfold Qh0 Bv
 refine Ok.n (R:=λc=>c=_) ?_ λc hc=>Ok.d hc
 refine Y7 λ_=>Y7 λ_=>?_
 rw[if_neg (show ¬(0:Int) > told by omega)]
 refine Y7 λ_=>Ok.c (Ct s.fk known) λr hr=>?_
 rw[<-Gf s known hk,<-hr,show (timer==decide (0<=s.fC.fq)&&(r&&(((s.fI.size:Int)==32)==(known==2)&&!(WC s.fI==(known==2)))&&UO s last))=(r&&((((s.fI.size:Int)==32)==(known==2))&&(!(WC s.fI==(known==2))&&(UO s last&&(decide (0<=s.fC.fq)==timer))))) from by
  generalize (((s.fI.size:Int)==32)==(known==2))=A
  generalize (!(WC s.fI==(known==2)))=B
  generalize UO s last=C
  generalize decide (0<=s.fC.fq)=D
  cases A<;>cases B<;>cases C<;>cases D<;>cases r<;>cases timer<;>rfl]
 refine Y7 λ_=>Y7 λ_=>Y7 λ_=>Ok.c (Cv s last) λr2 hr2=>?_
 rw[<-hr2]
 refine Y7 λ_=>Ok.c (R:=λr=>r=decide (0<=s.fC.fq)) ⟨_,rfl,rfl⟩ (by grind [Ok.d])
def gE(s:Q4):Bool:=s.gd==2 || (s.gd==4 || (s.gd==6 || (s.gd==9 || s.gd==10)))
def eK(s:Q4):Bool:=
 bif s.fw==7 then Bv s 0 8 0 0 0 false&&gE s else
 bif s.gd != 0 then false else
 bif s.fw==1&&s.fF==1 then Bv s 0 0 0 0 0 false else
 bif s.fw==1&&s.fm==0 then Bv s 0 0 0 0 0 false else
 bif s.fw==1 then Bv s 1 6 0 0 2 false else
 bif s.fw==2&&s.fF==1 then Bv s 1 1 0 0 1 true else
 bif s.fw==3&&s.fF==1 then Bv s 2 7 100 0 1 true else
 bif s.fw==4&&!(s.fF==1) then Bv s 1 7 (168+(s.fh.size:Int)) 1 3 true else
 bif s.fw==5&&s.fF==1 then Bv s 3 8 (204+((s.fh.size:Int)+(s.fk.fh.size:Int))) 2 4 true else
 bif s.fw==6&&s.fF==1 then Bv s 3 8 (240+((s.fh.size:Int)+(s.fk.fh.size:Int))) 2 0 false else
 bif s.fw==6 then Bv s 2 8 (240+((s.fh.size:Int)+(s.fk.fh.size:Int))) 2 5 false else false
theorem Bd(s:Q4)(x:H2):B1 s x=(s.fF==x.JF&&(s.fw==x.Zv&&Bv s x.YQ x.JG (Hh s x) x.QB x.Dq x.KJ)):=rfl
theorem Vq(s:Q4)(h:s.fF=1\/s.fF=2):eK s=(Rx s&&W7.any (B1 s)):=by
 unfold Rx eK W7
 simp only[List.any_cons,List.any_nil,Bool.or_false,Bd,Hh]
 by_cases h7:s.fw=7
 ·rw[h7]
  grind [Bool.and_comm,gE]
 ·rw[if_neg h7]
  by_cases hw:s.gd=0
  rotate_left
  ·grind
  rw[hw]
  by_cases h1:s.fw=1
  ·grind [decide_eq_false,Bv]
  grind
theorem aD(s:Q4)(h1:s.fF≠1)(h2:s.fF≠2):W7.any (B1 s)=false:=by
 simp_all [Bd,W7]
theorem I3{P:Program}{G:ze}{a:Nat}{c d e:Bool}{y:T P G Bool}(he:e=!c)(h:c=false->Ok y (λr=>r=!d)):Ok (.br a c (.done true) y) (λr=>r=!(e&&d)):=by
 subst he;exact EY h
theorem MK{P:Program}{G:ze}{a:Nat}{c d:Bool}{y:T P G Bool}(h:c=false->Ok y (λr=>r=d)):Ok (.br a c (.done true) y) (λr=>r=(c || d)):=by
 simp_all [Ok.e,Ok.d]
def uZ(s:Q4):Bool:=decide (0<=s.fj)&&(decide (s.fj<=1099511627776)&&(UM s.gc&&(UM s.fX&&(UM s.fB&&(Kz s&&(okB s.fh&&(decide (s.ft.length<=8)&&(decide (0<=s.fm)&&(decide (s.fm<=8)&&Uk s.fC)))))))))
theorem bR(s:za):UM s=!((s.size:Int) != 32):=by rw[<-int32];simp[bne]
theorem eG(s:Q4)(h:W7.any (B1 s)=true):0<=s.fm/\s.fm<=8:=by
 obtain⟨x,hx,h1⟩:=List.any_eq_true.1 h
 have hb:(W7.all λx=>decide (0<=x.YQ/\x.JG<=8))=true:=by decide
 have hb:=zG.1 hb x hx
 unfold B1 at h1
 grind
theorem XF(s:Q4)(h:Sm s):Qz (s63 s) (λr=>r=Zz s):=by
 unfold s63
 refine Qz.fn ?_
 unfold g63
 have tail:∀a1 a2 a3 a4 a5:Nat,Ok (T.call a1 (My s.fh) [] [] (λr=>.br a2 (!r) (.done true) (.br a3 (decide ((8:Int) < (M9 Z2 s.ft))) (.done true) (.br a4 (decide (s.fm < 0)) (.done true) (.br a5 (decide ((8:Int) < s.fm)) (.done true) (.cl 2079 (Dr s.fC) λr2=>.done (!r2)))))):TT Bool) (λr=>r=!(okB s.fh&&(decide (s.ft.length<=8)&&(decide (0<=s.fm)&&(decide (s.fm<=8)&&Uk s.fC))))):=λa1 a2 a3 a4 a5=>by
  refine Ok.c (Ua _) λr hr=>?_
  rw[<-hr]
  refine I3 (by simp) λ_=>I3 (by rw[E3,jZ,Bool.not_not,decide_eq_decide];omega) λ_=>I3 (by grind) λ_=>I3 (by grind) (by grind [Ok.c,GQ,Ok.d])
 refine Ok.n (R:=λc=>c=!(decide (s.fF=1\/s.fF=2)&&uZ s)) ?_ λc hc=>?_
 ·unfold uZ Kz
  by_cases h1:s.fF=1
  ·rw[zR (Or.inl h1),Bool.true_and]
   rw[if_neg (by omega)]
   simp only[h1]
   refine Ok.f rfl (I3 (by grind) λ_=>I3 (by grind) λ_=>I3 (bR _) λ_=>I3 (bR _) λ_=>I3 (bR _) λ_=>Ok.t rfl (I3 (by unfold WC;simp) λ_=>Ok.f rfl (tail _ _ _ _ _)))
  ·by_cases h2:s.fF=2
   ·rw[zR (Or.inr h2),Bool.true_and]
    rw[if_pos h2]
    simp only[h2]
    refine Ok.t rfl (Ok.f rfl (I3 (by grind) λ_=>I3 (by grind) λ_=>I3 (bR _) λ_=>I3 (bR _) λ_=>I3 (bR _) λ_=>Ok.f rfl (Ok.t rfl (I3 (bR _) λ_=>tail _ _ _ _ _))))
   ·rw[show decide (s.fF=1\/s.fF=2)=false from wB (λq=>q.elim h1 h2),Bool.false_and]
    exact Ok.t (by simpa using h1) (Ok.t (by simpa using h2) (Ok.d rfl))
 subst hc
 have eq0:Zz s=((decide (s.fF=1\/s.fF=2)&&uZ s)&&(s.ft.all YA&&eK s)):=by
  unfold Zz iA uZ Lm
  by_cases hs:s.fF=1\/s.fF=2
  ·rw[zR hs,Vq s hs,Bool.true_and]
   unfold N5
   cases ha:W7.any (B1 s) with
   | false=>simp
   | true=>
    obtain⟨q1,q2⟩:=eG s ha
    grind
  grind [decide_eq_false,aD]
 rw[eq0]
 cases hF:(decide (s.fF=1\/s.fF=2)&&uZ s) with
 | false=>exact Ok.t rfl (Ok.d rfl)
 | true=>
  refine Ok.f rfl ?_
  rw[Bool.true_and]
  have zb:(s.fh.size:Int)<=100000:=by have:=h.bd;omega
  have zp:(s.fk.fh.size:Int)<=100000:=by have:=h.pb;omega
  have w1:Q0 ((168:Int)+(s.fh.size:Int))=168+(s.fh.size:Int):=Z3 (by omega) (by omega)
  have w2:Q0 ((s.fh.size:Int)+(s.fk.fh.size:Int))=(s.fh.size:Int)+(s.fk.fh.size:Int):=Z3 (by omega) (by omega)
  have w3:Q0 ((204:Int)+((s.fh.size:Int)+(s.fk.fh.size:Int)))=204+((s.fh.size:Int)+(s.fk.fh.size:Int)):=Z3 (by omega) (by omega)
  have w4:Q0 ((240:Int)+((s.fh.size:Int)+(s.fk.fh.size:Int)))=240+((s.fh.size:Int)+(s.fk.fh.size:Int)):=Z3 (by omega) (by omega)
  refine Ok.p (R:=Sum.elim (λ_=>s.ft.all YA=false) (λ_=>s.ft.all YA=true)) ?_ (by grind [Ok.d,YA]) λe he=>?_
  ·have hl:=h.pr
   refine Ok.s s.ft.length (by omega) (λk y=>y=(k:Int)/\((s.ft.take k).any λx=>!YA x)=false) ⟨rfl,rfl⟩ (λk y hy hk=>?_) λy hy=>?_
   ·obtain⟨rfl,h1⟩:=hy
    obtain⟨x,hx,hx'⟩:=E1 (l:=s.ft) (k:=k) hk
    have h2:=B6 hx' h1
    refine Ok.t (by grind [E3]) (Ok.r (by simp) hx (Ok.c (XN x (by have:=h.ps x (zQ hx');omega)) λr hr=>?_))
    grind [Ok.e,Ok.d,O4,DP,Z8,YA]
   ·obtain⟨rfl,h1⟩:=hy
    grind [List.take_length,Ok.f,E3,Ok.d,DP,YA]
  rw[show s.ft.all YA=true from he,Bool.true_and]
  unfold eK
  have as0:=λ(a b c e:Int) (t:Bool) (hc:0<=c)=>Lr s a b c 0 e t hc (.inl rfl)
  have as1:=λ(a b c e:Int) (t:Bool) (hc:0<=c)=>Lr s a b c 1 e t hc (.inr (.inl rfl))
  have as2:=λ(a b c e:Int) (t:Bool) (hc:0<=c)=>Lr s a b c 2 e t hc (.inr (.inr rfl))
  have bz:(0:Int)<=(s.fh.size:Int):=by omega
  have pz:(0:Int)<=(s.fk.fh.size:Int):=by omega
  refine Ok.e (λh1=>?_) λh1=>?_
  ·rw[h1,cond_true]
   refine Ok.n (R:=λc=>c=_) ?_ λc hc=>Ok.d hc
   refine Ok.c (as0 0 8 0 0 false (by decide)) λr hr=>?_
   rw[<-hr]
   unfold gE
   exact Y7 λ_=>MK λ_=>MK λ_=>MK λ_=>MK λ_=>Ok.d rfl
  rw[h1,cond_false]
  refine Ok.e (λh2=>Ok.d (by rw[h2];rfl)) λh2=>?_
  rw[h2,cond_false]
  refine Ok.n (R:=λc=>c=(s.fw==1&&s.fF==1)) (Y7 λ_=>Ok.d rfl) λc hc=>?_
  rw[<-hc]
  refine Ok.e (λh3=>?_) λh3=>?_
  ·rw[h3,cond_true];exact Ok.c (as0 0 0 0 0 false (by decide)) λr hr=>Ok.d hr
  rw[h3,cond_false]
  refine Ok.n (R:=λc=>c=(s.fw==1&&s.fm==0)) (Y7 λ_=>Ok.d rfl) λc hc=>?_
  rw[<-hc]
  refine Ok.e (λh4=>?_) λh4=>?_
  ·rw[h4,cond_true];exact Ok.c (as0 0 0 0 0 false (by decide)) λr hr=>Ok.d hr
  rw[h4,cond_false]
  refine Ok.e (λh5=>?_) λh5=>?_
  ·rw[h5,cond_true];exact Ok.c (as0 1 6 0 2 false (by decide)) λr hr=>Ok.d hr
  rw[h5,cond_false]
  refine Ok.n (R:=λc=>c=(s.fw==2&&s.fF==1)) (Y7 λ_=>Ok.d rfl) λc hc=>?_
  rw[<-hc]
  refine Ok.e (λh6=>?_) λh6=>?_
  ·rw[h6,cond_true];exact Ok.c (as0 1 1 0 1 true (by decide)) λr hr=>Ok.d hr
  rw[h6,cond_false]
  refine Ok.n (R:=λc=>c=(s.fw==3&&s.fF==1)) (Y7 λ_=>Ok.d rfl) λc hc=>?_
  rw[<-hc]
  refine Ok.e (λh6=>?_) λh6=>?_
  ·rw[h6,cond_true];exact Ok.c (as0 2 7 100 1 true (by decide)) λr hr=>Ok.d hr
  rw[h6,cond_false]
  refine Ok.n (R:=λc=>c=(s.fw==4&&!(s.fF==1))) (Y7 λ_=>Ok.d rfl) λc hc=>?_
  rw[<-hc]
  refine Ok.e (λh6=>?_) λh6=>?_
  ·rw[h6,cond_true,w1];exact Ok.c (as1 1 7 _ 3 true (by omega)) λr hr=>Ok.d hr
  rw[h6,cond_false]
  refine Ok.n (R:=λc=>c=(s.fw==5&&s.fF==1)) (Y7 λ_=>Ok.d rfl) λc hc=>?_
  rw[<-hc]
  refine Ok.e (λh6=>?_) λh6=>?_
  ·rw[h6,cond_true,w2,w3];exact Ok.c (as2 3 8 _ 4 true (by omega)) λr hr=>Ok.d hr
  rw[h6,cond_false]
  refine Ok.n (R:=λc=>c=(s.fw==6&&s.fF==1)) (Y7 λ_=>Ok.d rfl) λc hc=>?_
  rw[<-hc]
  refine Ok.e (λh6=>?_) λh6=>?_
  ·rw[h6,cond_true,w2,w4];exact Ok.c (as2 3 8 _ 0 false (by omega)) λr hr=>Ok.d hr
  rw[h6,cond_false]
  refine Ok.e (λh6=>?_) λh6=>?_
  ·rw[h6,cond_true,w2,w4];exact Ok.c (as2 2 8 _ 5 false (by omega)) λr hr=>Ok.d hr
  rw[h6,cond_false]
  exact Ok.d rfl
end Go.Proofs.YtjdieimefebnfaaGreatDoor
namespace Go.EV
open Go
theorem UT(n:Int):Z1 n=n % 18446744073709551616:=by
 show IntKind.u64.wrap n=_
 simp[IntKind.wrap,IntKind.bits,IntKind.signed]
theorem U2{n:Int}(h0:0<=n)(h:n < 18446744073709551616):Z1 n=n:=by rw[UT];omega
theorem Aj{n:Int}(h:0<=n):∃m:Nat,n=(m:Int):=⟨n.toNat,by omega⟩
theorem kO(a b:Nat)(ha:a < 18446744073709551616)(hb:b < 18446744073709551616):U0 .u64 (a:Int) (b:Int)=((a &&& b:Nat):Int):=by
 show IntKind.u64.wrap ((BitVec.ofInt 64 (a:Int) &&& BitVec.ofInt 64 (b:Int)).toNat:Int)=_
 rw[BitVec.ofInt_natCast,BitVec.ofInt_natCast,BitVec.toNat_and,BitVec.toNat_ofNat,BitVec.toNat_ofNat,Nat.mod_eq_of_lt ha,Nat.mod_eq_of_lt hb]
 have:=Nat.and_le_left (n:=a) (m:=b)
 exact U2 (by omega) (by omega)
theorem Qzh(a b:Nat)(ha:a < 18446744073709551616)(hb:b < 18446744073709551616):Zn .u64 (a:Int) (b:Int)=((a ||| b:Nat):Int):=by
 show IntKind.u64.wrap ((BitVec.ofInt 64 (a:Int) ||| BitVec.ofInt 64 (b:Int)).toNat:Int)=_
 rw[BitVec.ofInt_natCast,BitVec.ofInt_natCast,BitVec.toNat_or,BitVec.toNat_ofNat,BitVec.toNat_ofNat,Nat.mod_eq_of_lt ha,Nat.mod_eq_of_lt hb]
 have:=Nat.or_lt_two_pow (n:=64) ha hb
 exact U2 (by omega) (by omega)
theorem Vc{a:Int}(h:0<=a)(k:Nat)(hk:k<=64):Z4 .u64 a (k:Int)=a / 2 ^ k:=by
 show a.fdiv (2 ^ (min (k:Int).toNat 64))=_
 rw[zL,Nat.min_eq_left hk,Int.fdiv_eq_ediv_of_nonneg _ (Int.pow_nonneg (by decide))]
theorem oV(a:Int)(k:Nat)(hk:k<=64):M3 .u64 a (k:Int)=a * 2 ^ k % 18446744073709551616:=by
 show IntKind.u64.wrap (a * 2 ^ (min (k:Int).toNat 64))=_
 rw[zL,Nat.min_eq_left hk]
 exact UT _
theorem De{a:Int}(h:0<=a)(h2:a < 18446744073709551616):U0 .u64 a 2251799813685247=a % 2251799813685248:=by
 obtain⟨n,rfl⟩:=Aj h
 have:=kO n 2251799813685247 (by omega) (by decide)
 rw[show ((2251799813685247:Nat):Int)=2251799813685247 from rfl] at this
 rw[this,show 2251799813685247=2 ^ 51 - 1 from rfl,Nat.and_two_pow_sub_one_eq_mod]
 omega
theorem kL{a:Int}(h:0<=a)(h2:a < 18446744073709551616):U0 .u64 a 4294967295=a % 4294967296:=by
 obtain⟨n,rfl⟩:=Aj h
 have:=kO n 4294967295 (by omega) (by decide)
 rw[show ((4294967295:Nat):Int)=4294967295 from rfl] at this
 rw[this,show 4294967295=2 ^ 32 - 1 from rfl,Nat.and_two_pow_sub_one_eq_mod]
 omega
theorem Qd3{a:Int}(h:0<=a)(h2:a < 18446744073709551616):U0 .u64 a 1=a % 2:=by
 obtain⟨n,rfl⟩:=Aj h
 have:=kO n 1 (by omega) (by decide)
 rw[show ((1:Nat):Int)=1 from rfl] at this
 rw[this,Nat.and_one_is_mod]
 omega
theorem EG{a:Int}(h:0<=a):Z4 .u64 a 51=a / 2251799813685248:=Vc h 51 (by decide)
theorem Gz{a:Int}(h:0<=a):Z4 .u64 a 32=a / 4294967296:=Vc h 32 (by decide)
theorem lD{h l:Int}(h0:0<=h)(h1:h < 2251799813685248)(l0:0<=l)(l1:l < 18446744073709551616):Zn .u64 (M3 .u64 h 13) (Z4 .u64 l 51)=(h * 18446744073709551616+l) / 2251799813685248:=by
 rw[EG l0,show M3 .u64 h 13=_ from oV h 13 (by decide)]
 have e:h * 2 ^ 13 % 18446744073709551616=h * 8192:=by
  rw[show (2:Int) ^ 13=8192 from rfl];omega
 rw[e]
 obtain⟨a,rfl⟩:=Aj h0
 obtain⟨b,rfl⟩:=Aj l0
 have hb:b / 2251799813685248 < 2 ^ 13:=by omega
 have:=Qzh (a * 8192) (b / 2251799813685248) (by omega) (by omega)
 rw[show ((a * 8192:Nat):Int)=(a:Int) * 8192 by omega,show ((b / 2251799813685248:Nat):Int)=(b:Int) / 2251799813685248 by omega] at this
 rw[this]
 have k:=Nat.two_pow_add_eq_or_of_lt hb a
 rw[show a * 8192=2 ^ 13 * a by omega,<-k]
 omega
end Go.EV
namespace Crv
def pw(n:Nat):Nat->Nat->Nat->Nat->Nat
 | 0,_,_,c=>c
 | k+1,a,e,c=>bif e==0 then c else pw n k (a * a % n) (e / 2) (bif e % 2==1 then c * a % n else c)
theorem qY{n:Nat}:∀(k a e c:Nat),e < 2 ^ k->pw n k a e c % n=c * a ^ e % n
 | 0,a,e,c,h=>by
  have:e=0:=by simp at h;omega
  simp[pw,this]
 | k+1,a,e,c,h=>by
  unfold pw
  by_cases h0:e=0
  ·simp[h0]
  rw[show (e==0)=false by simpa using h0,cond_false,qY k _ _ _ (by rw[Nat.pow_succ] at h;omega)]
  have e1:(a * a % n) ^ (e / 2) % n=a ^ (2 * (e / 2)) % n:=by rw[<-Nat.pow_mod,Nat.pow_mul,Nat.pow_two]
  rcases Nat.mod_two_eq_zero_or_one e with h2|h2
  ·rw[h2,show ((0:Nat)==1)=false from rfl,cond_false,Nat.mul_mod,e1,<-Nat.mul_mod,show 2 * (e / 2)=e by omega]
  ·rw[h2,show ((1:Nat)==1)=true from rfl,cond_true,Nat.mul_mod,Nat.mod_mod,e1,<-Nat.mul_mod,Nat.mul_assoc,<-Nat.pow_succ',show (2 * (e / 2)).succ=e by omega]
def qD:Nat:=2 ^ 255 - 19
end Crv
