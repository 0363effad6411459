/- Badges of the program: their octets, written and read. The digest of a text, and keys derived from secrets: what they are. Fingerprints: which texts ..; no conditions. -/
import Derived.Test.YtjdieimefebnfaaGreatDoorH9
import Derived.Test.YtjdieimefebnfaaGreatDoorH15
import Derived.Test.YtjdieimefebnfaaGreatDoorH13
import Derived.Test.YtjdieimefebnfaaGreatDoorH10
import Derived.Test.YtjdieimefebnfaaGreatDoorH11
import Derived.Test.YtjdieimefebnfaaGreatDoorH7
import Derived.Test.YtjdieimefebnfaaGreatDoorH14
import Derived.Test.YtjdieimefebnfaaGreatDoorH5
import Derived.KernelRfl
set_option linter.unusedVariables false
set_option linter.unusedSimpArgs false
set_option maxRecDepth 100000
namespace Go.Proofs.YtjdieimefebnfaaGreatDoor
open Go Go.EV
def Zl(n:Nat)(v:Int):za:=strOfNums (Yb n v)
theorem S7(n:Nat)(v:Int):(Zl n v).size=n:=by unfold Zl;rw[W3,Uc]
def Ft:za:=bs [102,100,1]
theorem GC:Ft.size=3:=rfl
def X4(b:Z6):za:=Ft++Zl 6 b.fO++Zl 6 b.fG++Zl 6 b.fH++Zl 1 (b.fy.size:Int)++b.fy++b.fJ
theorem N1{n:za}(h:R0 n=true):1<=n.size/\n.size<=32:=by
 simp_all [zD,zA,R0]
theorem F6{b:Z6}(h:O2 b=true):R0 b.fy=true/\b.fJ.size=32/\0<=b.fG/\b.fG<=b.fH/\b.fH<=1099511627776/\0<=b.fO/\b.fO<=281474976710655:=by
 simp_all [zD,zA,O2]
theorem Ws{b:Z6}(h:O2 b=true):(X4 b).size=54+b.fy.size:=by
 grind [F6,ByteArray.size_append,S7,GC,X4]
theorem sR(v:Int)(h0:0<=v)(h:v < 281474976710656):Qq (nN 6 v) (λr=>r=(strOfNums (Yb 6 v),0)):=
 Qzq h0 (by rw[S8 v _ (by decide)];simp;omega) (show (cV 6 v).run=(bif decide (v < 0) then some (zd,2) else bif (Z5 .i64 v ((8 * 6:Nat):Int) != 0) then some (zd,6) else some (strOfNums [Qk (Z5 .i64 v ((40:Nat):Int)),Qk (Z5 .i64 v ((32:Nat):Int)),Qk (Z5 .i64 v ((24:Nat):Int)),Qk (Z5 .i64 v ((16:Nat):Int)),Qk (Z5 .i64 v ((8:Nat):Int)),Qk (Z5 .i64 v ((0:Nat):Int))],0)) by kernel_rfl)
  (by simp only[L3,S8 _ _ (show 0<=64 by decide),S8 _ _ (show 8<=64 by decide),S8 _ _ (show 16<=64 by decide),S8 _ _ (show 24<=64 by decide),S8 _ _ (show 32<=64 by decide),S8 _ _ (show 40<=64 by decide),Yb,List.nil_append,List.cons_append,Int.pow_zero,Int.ediv_one,List.cons.injEq,and_true];omega)
theorem Lc(v:Int)(h0:0<=v)(h:v < 281474976710656):Qq (Gm 6 v) (λr=>r=Zl 6 v):=by
 unfold Gm
 refine Qq.fn ?_
 unfold tE
 exact Ok.c (sR v h0 h) λr hr=>Ok.d (by rw[hr];rfl)
theorem aH(v:Int)(h0:0<=v)(h:v < 256):Qq (Gm 1 v) (λr=>r=Zl 1 v):=by
 unfold Gm
 refine Qq.fn ?_
 unfold tE
 exact Ok.c (sP v h0 h) λr hr=>Ok.d (by rw[hr];rfl)
theorem Lt(b:Z6):Qq (VM b) (λr=>r=if O2 b then (X4 b,0) else (zd,180)):=by
 unfold VM
 refine Qq.fn ?_
 unfold Quz
 refine Ok.c (Ml b) λr hr=>?_
 subst hr
 refine Ok.e (λh=>Ok.d ?_) λh=>?_
 ·grind
 ·have hv:O2 b=true:=by simpa using h
  obtain⟨h1,h2,h3,h4,h5,h6,h7⟩:=F6 hv
  obtain⟨z1,z2⟩:=N1 h1
  rw[if_pos hv]
  refine Ok.c (Lc b.fO h6 (by omega)) λr1 e1=>Ok.k ?_ (Ok.c (Lc b.fG h3 (by omega)) λr2 e2=>Ok.k ?_ (Ok.c (Lc b.fH (by omega) (by omega)) λr3 e3=>Ok.k ?_ (Ok.c (aH (b.fy.size:Int) (by omega) (by omega)) λr4 e4=>Ok.k ?_ (Ok.k ?_ (Ok.k ?_ (Ok.d ?_))))))
  all_goals subst_vars
  iterate 6
   ·simp only[ByteArray.size_append,S7,zA,show (bs [102,100,1]).size=3 from rfl,h2];omega
  ·rfl
def zB:Z6:=⟨zd,zd,0,0,0⟩
def UA(s:za):Nat:=(QQ s 21).toNat
def Za(s:za):Z6:=⟨s.extract 22 (22+UA s),s.extract (22+UA s) (54+UA s),num (Q4 (s.extract 9 15)),num (Q4 (s.extract 15 21)),num (Q4 (s.extract 3 9))⟩
def okB(s:za):Bool:=decide (22<=s.size)&&(decide (s.size=54+UA s)&&(decide (s.extract 0 3=Ft)&&O2 (Za s)))
def YZ(s:za):Z6×Int:=bif okB s then (Za s,0) else (zB,5)
theorem DR(e:Int):(rU e).o=some (bif e != 0 then .inr () else .inl ()):=by
 show (tK e).run=_
 unfold tK
 simp only[T.run]
 cases (e != 0)<;>rfl
theorem TS(p:Z6)(s:za)(a n:Nat)(ha:a<=s.size)(hs:s.size<=1000000) :
  (VK (n:Int) ⟨p,⟨s,a⟩⟩).o=some (if a+n<=s.size then .inl (s,((a+n:Nat):Int),s.extract a (a+n)) else .inr ()):=by
 show (tR (n:Int) ⟨p,⟨s,a⟩⟩).run=_
 unfold tR
 by_cases h:a+n<=s.size
 ·have h1:=(sA s a n h hs).eq
  simp_all [DR,if_pos,T.run]
 ·obtain⟨r,h1,h2⟩:=xH s a n ha (by omega) hs
  simp_all [DR,if_neg,T.run]
theorem Sg(p:Z6)(s:za)(a n:Nat)(ha:a<=s.size)(hn:1<=n)(hn7:n<=7)(hs:s.size<=1000000) :
  (Ch (n:Int) ⟨p,⟨s,a⟩⟩).o=some (if a+n<=s.size then .inl (s,((a+n:Nat):Int),num (Q4 (s.extract a (a+n)))) else .inr ()):=by
 show (tN (n:Int) ⟨p,⟨s,a⟩⟩).run=_
 unfold tN
 by_cases h:a+n<=s.size
 ·have h1:=(sX s a n h hn hn7 hs).eq
  simp_all [DR,if_pos,T.run]
 ·obtain⟨r,h1,h2⟩:=xJ s a n ha (by omega) hn hn7 hs
  simp_all [DR,if_neg,T.run]
theorem bX{s:za}{a:Nat}(h:a < s.size):num (Q4 (s.extract a (a+1)))=QQ s (a:Int):=by
 have e:Q4 (s.extract a (a+1))=[QQ s (a:Int)]:=by
  refine List.ext_getElem? λi=>?_
  have hz:(s.extract a (a+1)).size=1:=by rw[ByteArray.size_extract];omega
  by_cases hi:i < 1
  ·obtain rfl:i=0:=by omega
   grind [T2,Xq]
  grind [List.getElem?_eq_none,D3]
 grind [num]
theorem nQ(s:za)(hs:s.size<=1000000):(s85 ⟨zB,⟨s,0⟩⟩).o=some (if 3<=s.size/\s.extract 0 3=Ft then .inl (s,3) else .inr ()):=by
 show (g85 ⟨zB,⟨s,0⟩⟩).run=_
 unfold g85
 have h1:(VK 3 ⟨zB,⟨s,0⟩⟩).o=some (if 0+3<=s.size then .inl (s,3,s.extract 0 3) else .inr ()):=TS zB s 0 3 (by omega) hs
 simp only[T.run,h1]
 by_cases h:0+3<=s.size
 ·rw[if_pos h]
  by_cases h2:s.extract 0 3=Ft
  ·rw[if_pos ⟨by omega,h2⟩,h2]
   rfl
  ·rw[if_neg (λq=>h2 q.2)]
   simp only[show (decide (s.extract 0 3=bs [102,100,1]))=false from wi h2]
   rfl
 grind
theorem Qki(p:Z6)(s:za)(a:Nat)(ha:a<=s.size)(hs:s.size<=1000000):(s86 ⟨p,⟨s,a⟩⟩).o=some (if a+6<=s.size then .inl (num (Q4 (s.extract a (a+6))),s,((a+6:Nat):Int)) else .inr ()):=by
 show (g86 ⟨p,⟨s,a⟩⟩).run=_
 unfold g86
 have h1:=Sg p s a 6 ha (by decide) (by decide) hs
 simp only[show ((6:Nat):Int)=6 from rfl] at h1
 simp only[T.run,h1]
 by_cases h:a+6<=s.size
 ·grind
 grind
theorem Qzo(p:Z6)(s:za)(a:Nat)(ha:a<=s.size)(hs:s.size<=1000000):(s87 ⟨p,⟨s,a⟩⟩).o=some (if a+6<=s.size then .inl (num (Q4 (s.extract a (a+6))),s,((a+6:Nat):Int)) else .inr ()):=by
 show (g87 ⟨p,⟨s,a⟩⟩).run=_
 unfold g87
 have h1:=Sg p s a 6 ha (by decide) (by decide) hs
 simp only[show ((6:Nat):Int)=6 from rfl] at h1
 simp only[T.run,h1]
 by_cases h:a+6<=s.size
 ·grind
 grind
theorem Qzi(p:Z6)(s:za)(a:Nat)(ha:a<=s.size)(hs:s.size<=1000000):(s88 ⟨p,⟨s,a⟩⟩).o=some (if a+6<=s.size then .inl (num (Q4 (s.extract a (a+6))),s,((a+6:Nat):Int)) else .inr ()):=by
 show (g88 ⟨p,⟨s,a⟩⟩).run=_
 unfold g88
 have h1:=Sg p s a 6 ha (by decide) (by decide) hs
 simp only[show ((6:Nat):Int)=6 from rfl] at h1
 simp only[T.run,h1]
 by_cases h:a+6<=s.size
 ·grind
 grind
theorem Qzn(p:Z6)(s:za)(ha:21<=s.size)(hs:s.size<=1000000):(s89 ⟨p,⟨s,21⟩⟩).o=some (if 22+UA s<=s.size then .inl (s.extract 22 (22+UA s),s,((22+UA s:Nat):Int)) else .inr ()):=by
 show (g89 ⟨p,⟨s,21⟩⟩).run=_
 unfold g89
 have h1:(Ch 1 ⟨p,⟨s,21⟩⟩).o=_:=Sg p s 21 1 ha (by decide) (by decide) hs
 simp only[T.run,h1]
 by_cases h:21+1<=s.size
 ·rw[if_pos h]
  have hb:=I0 s 21
  have e:num (Q4 (s.extract 21 (21+1)))=(UA s:Int):=by
   grind [bX,UA,QQ]
  have h2:=TS p s 22 (UA s) (by omega) hs
  grind
 grind
theorem Qkl(p:Z6)(s:za)(a:Nat)(ha:a<=s.size)(hs:s.size<=1000000):(s90 ⟨p,⟨s,a⟩⟩).o=some (if a+32<=s.size then .inl (s.extract a (a+32),s,((a+32:Nat):Int)) else .inr ()):=by
 show (g90 ⟨p,⟨s,a⟩⟩).run=_
 unfold g90
 have h1:=TS p s a 32 ha hs
 simp only[show ((32:Nat):Int)=32 from rfl] at h1
 simp only[T.run,h1]
 by_cases h:a+32<=s.size
 ·grind
 grind
theorem bL{a b:Nat}(h:a=b):(((a:Nat):Int) != (b:Int))=false:=by subst h;simp
theorem aX{a b:Nat}(h:a≠b):(((a:Nat):Int) != (b:Int))=true:=by simp;omega
def mT(r:Z6×Int):Sw:=(r.1.fy,r.1.fJ,r.1.fG,r.1.fH,r.1.fO,r.2)
set_option maxHeartbeats 2000000 in
theorem vP(s:za)(hs:s.size<=1000000):lV s=some (mT (YZ s)):=by
 have bad:okB s=false->YZ s=(zB,5):=(by grind [YZ])
 have inr:(DZ s).run=some (.inr ())->okB s=false->lV s=some (mT (YZ s)):=λh h2=>by
  unfold lV;rw[h,bad h2];rfl
 have no:¬(54+UA s<=s.size)->okB s=false:=(by grind [decide_eq_false,okB,UA])
 have e3:((3:Nat):Int)=3:=rfl
 have f0:=nQ s hs
 by_cases c0:3<=s.size/\s.extract 0 3=Ft
 rotate_left
 ·rw[if_neg c0] at f0
  refine inr ?_ ?_
  ·unfold DZ;simp only[T.run,show (Z6.mk zd zd 0 0 0)=zB from rfl,f0]
  grind [decide_eq_false,okB]
 rw[if_pos c0] at f0
 have f1:(s86 ⟨zB,⟨s,3⟩⟩).o=_:=Qki zB s 3 (by omega) hs
 by_cases c1:3+6<=s.size
 rotate_left
 ·rw[if_neg c1] at f1
  refine inr ?_ (no (by omega))
  unfold DZ;simp only[T.run,show (Z6.mk zd zd 0 0 0)=zB from rfl,f0,f1]
 rw[if_pos c1] at f1
 have f2:∀p,(s87 ⟨p,⟨s,((3+6:Nat):Int)⟩⟩).o=_:=λp=>Qzo p s 9 (by omega) hs
 by_cases c2:9+6<=s.size
 rotate_left
 ·simp only[if_neg c2] at f2
  refine inr ?_ (no (by omega))
  unfold DZ;simp only[T.run,show (Z6.mk zd zd 0 0 0)=zB from rfl,f0,f1,f2]
 simp only[if_pos c2] at f2
 have f3:∀p,(s88 ⟨p,⟨s,((9+6:Nat):Int)⟩⟩).o=_:=λp=>Qzi p s 15 (by omega) hs
 by_cases c3:15+6<=s.size
 rotate_left
 ·simp only[if_neg c3] at f3
  refine inr ?_ (no (by omega))
  unfold DZ;simp only[T.run,show (Z6.mk zd zd 0 0 0)=zB from rfl,f0,f1,f2,f3]
 simp only[if_pos c3] at f3
 have f4:∀p,(s89 ⟨p,⟨s,((15+6:Nat):Int)⟩⟩).o=_:=λp=>Qzn p s (by omega) hs
 by_cases c4:22+UA s<=s.size
 rotate_left
 ·simp only[if_neg c4] at f4
  refine inr ?_ (no (by omega))
  unfold DZ;simp only[T.run,show (Z6.mk zd zd 0 0 0)=zB from rfl,f0,f1,f2,f3,f4]
 simp only[if_pos c4] at f4
 have f5:∀p,(s90 ⟨p,⟨s,((22+UA s:Nat):Int)⟩⟩).o=_:=λp=>Qkl p s (22+UA s) (by omega) hs
 by_cases c5:22+UA s+32<=s.size
 rotate_left
 ·simp only[if_neg c5] at f5
  refine inr ?_ (no (by omega))
  unfold DZ;simp only[T.run,show (Z6.mk zd zd 0 0 0)=zB from rfl,f0,f1,f2,f3,f4,f5]
 simp only[if_pos c5] at f5
 have f6:=(Ml (Za s)).eq
 have em:Z6.mk (s.extract 22 (22+UA s)) (s.extract (22+UA s) (22+UA s+32)) (num (Q4 (s.extract 9 (9+6)))) (num (Q4 (s.extract 15 (15+6)))) (num (Q4 (s.extract 3 (3+6))))=Za s:=by
  grind [Za,UA]
 have run:(DZ s).run=some (.inl (mT (YZ s))):=by
  unfold DZ
  simp only[T.run,show (Z6.mk zd zd 0 0 0)=zB from rfl,f0,f1,f2,f3,f4,f5,em,f6]
  by_cases c6:s.size=54+UA s
  ·rw[bL (show 22+UA s+32=s.size by omega)]
   have eo:okB s=O2 (Za s):=by
    grind [decide_eq_true,okB]
   unfold YZ
   rw[eo]
   cases O2 (Za s) with
   | true=>simp_all [cond_false,Bool.not_true,cond_true,mT,Za,UA]
   | false=>rfl
  ·rw[aX (show 22+UA s+32≠s.size by omega)]
   have eo:okB s=false:=by grind [decide_eq_false,okB]
   rw[bad eo];rfl
 grind [lV]
theorem Ea(s:za)(hs:s.size<=1000000):Qq (s46 s) (λr=>r=YZ s):=by
 refine⟨YZ s,?_,rfl⟩
 show (lV s).map _=_
 rw[vP s hs]
 rfl
def Hm(s:za):za:=Ip s vS
theorem R2(k s:za):(N2 k s).size=32:=C3 _ _ _
theorem Wy(s:za):(Hm s).size=32:=T0 _ _
def LC(secret salt info:za):za:=N2 (N2 salt secret) (info++bs [1])
theorem Yk(a b c:za):(LC a b c).size=32:=R2 _ _
theorem SA(s:za)(hs:s.size<=4096):Qq (s95 s) (λr=>r=(Hm s,0)):=by
 show Ok (g95 s) _
 unfold g95
 refine Ok.v (XC [s] (by simp) (by simpa using hs)) λr hr=>?_
 subst hr
 refine Ok.f rfl (Ok.c (Qq.o LH) λr hr=>?_)
 subst hr
 refine Ok.v (Lp vS [s] (by simp) (by simp;omega)) λr hr=>Ok.d ?_
 rw[hr,MM];rfl
theorem GW(a b c:za)(ha:a.size<=4096)(hb:b.size<=4096)(hc:c.size<=4096):Qq (s94 a b c 32) (λr=>r=(LC a b c,0)):=by
 show Ok (g94 a b c 32) _
 unfold g94
 refine Ok.v (XC [a,b,c] (by simp) (by simp[ha,hb,hc])) λr hr=>?_
 subst hr
 refine Ok.f rfl (Ok.n (R:=λr=>r=false) (Ok.f rfl (Ok.d rfl)) λr hr=>?_)
 subst hr
 refine Ok.f rfl (Ok.c (Qq.o LH) λr hr=>?_)
 subst hr
 refine Ok.v (Ls vS b [a] (by omega) (by simp) (by simp;omega)) λp hp=>?_
 rw[MM] at hp
 have hz:p.size=32:=by rw[hp];exact C3 _ _ _
 refine Ok.b (R:=λe=>e=Ax vS p (c++bs [1])) ?_ λe he=>?_
 ·refine Ok.s 1 (by decide) (λk y=>y.2.2=(k:Int)+1/\(k=0->y.1=zd/\y.2.1=zd)/\(k=1->y.2.1=Ax vS p (c++bs [1]))) ⟨rfl,λ_=>⟨rfl,rfl⟩,λh=>by cases h⟩ (λk y hy hk=>?_) λy hy=>?_
  ·obtain⟨h1,h2,h3⟩:=hy
   obtain rfl:k=0:=by omega
   obtain⟨e1,e2⟩:=h2 rfl
   obtain⟨y1,y2,y3⟩:=y
   simp only at h1 e1 e2
   subst h1 e1 e2
   refine Ok.t (by simp) (Ok.v (Ls vS p [zd,c,strOfNums [Qk 1]] (by omega) (by simp) (by simp[strOfNums_size];omega)) λr hr=>Ok.k ?_ (Ok.d ?_))
   ·simp only[hr,C3];decide
   ·refine⟨by rfl,λh=>(by cases h),λ_=>?_⟩
    show zd++r=_
    rw[hr]
    simp only[cat,ByteArray.empty_append,ByteArray.append_empty]
    rfl
  ·obtain⟨h1,h2,h3⟩:=hy
   refine Ok.f ?_ (Ok.d (h3 rfl))
   rw[h3 rfl,C3];rfl
 ·subst he
  refine Ok.k ?_ (Ok.d ?_)
  ·rw[C3];decide
  ·have e:(Ax vS p (c++bs [1])).extract 0 (32:Int).toNat=Ax vS p (c++bs [1]):=by
    have:=ByteArray.extract_zero_size (b:=Ax vS p (c++bs [1]))
    rw[C3] at this
    exact this
   rw[e,hp];rfl
def dgs:za:=bs [48,49,50,51,52,53,54,55,56,57,65,66,67,68,69,70]
def ZG:za:=bs [115,104,97,45,50,53,54,32]
def Mb(c:Int):Bool:=(decide (48<=c)&&decide (c<=57)) || (decide (65<=c)&&decide (c<=70))
def Tt(i:Nat)(c:Int):Bool:=if i % 3=2 then c==58 else Mb c
def YW(p:za):Bool:=decide (p.size=103)&&(decide (p.extract 0 8=ZG)&&(List.range 95).all λi=>Tt i (QQ p ((8+i:Nat):Int)))
def Tc(c:Int):Int:=QQ dgs (c / 16)
def Tb(c:Int):Int:=QQ dgs (c % 16)
def zzQ:List Int->List Int
 | []=>[]
 | [c]=>[Tc c,Tb c]
 | c :: d :: l=>Tc c :: Tb c :: 58 :: zzQ (d :: l)
def I3(s:za):za:=ZG++strOfNums (zzQ (Q4 s))
theorem Vc(l:List Int)(c:Int):zzQ (l++[c])=(if l=[] then [] else zzQ l++[58])++[Tc c,Tb c]:=by
 induction l with
 | nil=>rfl
 | cons x l ih=>
  cases l with
  | nil=>rfl
  | cons y l=>
   simp_all [if_neg,Tc,Tb,zzQ]
theorem iU:((List.range 256).all λn=>decide (firstIdx dgs ((n:Int)).toNat.toUInt8 < 0)==!Mb (n:Int))=true:=by kernel_rfl
theorem bZ(c:Int)(h:0<=c/\c < 256):Qq (RW dgs c) (λr=>decide (r < 0)=!Mb c):=by
 have h1:Qq (nD dgs c) (λr=>decide (r < 0)=!Mb c):=by
  unfold nD
  refine Qq.fn ?_
  unfold Qym
  refine Ok.o (r:=()) rfl (Ok.d ?_)
  obtain⟨n,rfl⟩:=Int.eq_ofNat_of_zero_le h.1
  grind [List.all_eq_true,iU]
 grind [oF,Qq.fn,Ok.c,Ok.d,RW,Qj2]
theorem iA(i:Nat)(c:Int)(hc:0<=c/\c < 256)(s:za):(CN (i:Int) s c).run=(bif Tt i c then some (Q0 ((i:Int)+1)) else none)/\(CG (i:Int) s c).run=(bif Tt i c then none else some ()):=by
 obtain⟨r,h1,h2⟩:=bZ c hc
 have h1:(RW (bs [48,49,50,51,52,53,54,55,56,57,65,66,67,68,69,70]) c).o=some r:=h1
 have e:Int.tmod (i:Int) 3=((i % 3:Nat):Int):=by grind
 unfold CN CG Tt
 simp only[T.run,h1,e,h2]
 by_cases h3:i % 3=2
 ·grind
 grind
theorem bC(s:za)(hs:s.size<=1000):∃e,mFi 0 s=some e/\(match e with|.inl _=>((List.range s.size).all λi=>Tt i (QQ s (i:Int)))=true|.inr _=>((List.range s.size).all λi=>Tt i (QQ s (i:Int)))=false):=by
 refine Ef s.size (by omega) (λk y=>y=((k:Int),(k:Int))/\∀i,i < k->Tt i (QQ s (i:Int))=true) (by grind) (λk y hy hk=>?_) λy hy=>?_
 ·obtain⟨h1,h2⟩:=hy
  subst h1
  obtain⟨ea,eb⟩:=iA k (QQ s (k:Int)) (I0 _ _) s
  unfold KC
  simp only[kA hk,ea,eb]
  cases hc:Tt k (QQ s (k:Int)) with
  | true=>
   refine⟨.inl (Q0 ((k:Int)+1),Q0 ((k:Int)+1)),rfl,by grind [Z9],λi hi=>?_⟩
   grind
  | false=>
   grind
 ·obtain⟨h1,h2⟩:=hy
  subst h1
  unfold KC
  simp only[Sj rfl]
  exact⟨.inl _,rfl,zF.2 λi hi=>h2 i (by simpa using hi)⟩
theorem aQ(s p:za):Qq (nS s p) (λr=>r=if p.size<=s.size/\s.extract 0 p.size=p then (s.extract p.size s.size,true) else (s,false)):=by
 have h1:Qq (s99 s p) (λr=>r=decide (p.size<=s.size/\s.extract 0 p.size=p)):=by
  unfold s99
  refine Qq.fn ?_
  unfold g99
  refine Ok.n (R:=λr=>r=decide (p.size<=s.size/\s.extract 0 p.size=p)) (Ok.e (λh=>Ok.k (by simp at h ⊢;omega) (Ok.d ?_)) λh=>Ok.d ?_) λr hr=>Ok.d hr
  ·grind
  grind
 have h2:Qq (nX s p) (λr=>r=if p.size<=s.size/\s.extract 0 p.size=p then (s.extract p.size s.size,true) else (s,false)):=by
  unfold nX
  refine Qq.fn ?_
  unfold Qye
  refine Ok.c h1 λr hr=>?_
  subst hr
  refine Ok.e (λh=>Ok.d ?_) λh=>?_
  ·grind
  simp_all [if_pos,Ok.k,Ok.d,zJ]
 grind [oF,Qq.fn,Ok.c,Ok.d,nS,Qj3]
theorem GU(p:za):Qq (OV p) (λr=>r=YW p):=by
 unfold OV
 refine Qq.fn ?_
 unfold jF
 refine Ok.c (aQ p ZG) λr hr=>?_
 rw[show ZG.size=8 from rfl] at hr
 by_cases hk:8<=p.size/\p.extract 0 8=ZG
 rotate_left
 ·rw[if_neg hk] at hr
  subst hr
  refine Ok.n (R:=λc=>c=true) (Ok.t rfl (Ok.d rfl)) λc hc=>Ok.t hc (Ok.d ?_)
  grind [decide_eq_false,YW,ZG]
 ·rw[if_pos hk] at hr
  subst hr
  have hz:(p.extract 8 p.size).size=p.size - 8:=by simp_all
  refine Ok.n (R:=λc=>c=!decide (p.size=103)) (Ok.f rfl (Ok.d ?_)) λc hc=>?_
  ·grind
  ·subst hc
   refine Ok.e (λh=>Ok.d ?_) λh=>?_
   ·grind [decide_eq_false,YW]
   ·have h:p.size=103:=by simpa using h
    refine Ok.c (R:=λ_=>True) ⟨(),by rfl,trivial⟩ λ_ _=>Ok.g ?_
    obtain⟨e,m1,m2⟩:=bC (p.extract 8 p.size) (by omega)
    have hall:((List.range (p.extract 8 p.size).size).all λi=>Tt i (QQ (p.extract 8 p.size) (i:Int)))=YW p:=by
     unfold YW
     rw[zO h,zO (show p.extract 0 8=ZG from hk.2),hz,h]
     simp only[Bool.true_and]
     rw[Bool.eq_iff_iff,zF,zF]
     have e1:∀i:Nat,i < 95->QQ (p.extract 8 103) (i:Int)=QQ p ((8+i:Nat):Int):=(by grind [Xq])
     refine⟨λq i hi=>?_,λq i hi=>?_⟩
     ·grind
     grind
    rw[hall] at m2
    clear hall
    have m1:(Vk 0 (p.extract 8 p.size)).o=some e:=by unfold Vk;exact m1
    generalize YW p=B at *
    generalize p.extract 8 p.size=q at *
    exact Ok.oS (R:=λe=>match e with|.inl _=>B=true|.inr _=>B=false) (x:=e) m1 (by grind) (by grind [Ok.d]) (by grind [Ok.d])
theorem bM(p:za):Qq (pN p) (λr=>(r==0)=YW p):=by
 grind [oF,Qq.fn,Ok.c,GU,Ok.e,Ok.d,pN,Qut,YW]
def Db(c:Int):za:=strOfNums [Tc c,Tb c]
theorem dV(y:List za)(s:za)(c:Int)(hc:0<=c/\c < 256)(hl:y.length<=1000):(CF y s c).run=some (y++[Db c]):=by
 have e1:Qk (Int.tdiv c 16)=c / 16:=by rw[L3,Int.tdiv_eq_ediv_of_nonneg hc.1];omega
 have e2:Int.tmod c 16=c % 16:=(by grind)
 unfold CF
 simp only[T.run,e1,e2,show (bs [48,49,50,51,52,53,54,55,56,57,65,66,67,68,69,70]).size=16 from rfl]
 rw[zO (show 0<=c / 16/\c / 16 < ((16:Nat):Int) by omega),zO (show 0<=c % 16/\c % 16 < ((16:Nat):Int) by omega),zO (by show (y.length+1) * 16<=_;omega)]
 rfl
theorem bB(s:za)(hs:s.size<=1000):mPr [] s=some (.inl ((Q4 s).map Db)):=by
 have step:∀(k:Nat) (y:List za×Int),y=(((Q4 s).take k).map Db,(k:Int))->k < s.size->∃r,Ke s y=some r/\Sum.elim (λy=>y=(((Q4 s).take (k+1)).map Db,((k+1:Nat):Int))) (λe=>e=.inl ((Q4 s).map Db)) r:=λk y hy hk=>by
  subst hy
  unfold Ke
  simp only[kA hk,dV _ s _ (I0 _ _) (show (((Q4 s).take k).map Db).length<=1000 by simp;omega)]
  refine⟨_,rfl,?_⟩
  grind [Z9,List.take_add_one,T2]
 have last:∀y:List za×Int,y=(((Q4 s).take s.size).map Db,(s.size:Int))->∃e,Ke s y=some (.inr e)/\e=.inl ((Q4 s).map Db):=λy hy=>by
  subst hy
  unfold Ke
  simp only[Sj rfl]
  rw[List.take_of_length_le (by rw[D3];omega)]
  exact⟨_,rfl,rfl⟩
 obtain⟨e,h1,h2⟩:=Ef (f:=Ke s) (x0:=([],0)) s.size (by omega) (λk y=>y=(((Q4 s).take k).map Db,(k:Int))) (by grind) step last
 rw[<-h2];exact h1
theorem iY(l:List Int):Q4 (WO (l.map Db) (bs [58]))=zzQ l/\(WO (l.map Db) (bs [58])).size<=3 * l.length:=by
 have rng:∀c,(0<=Tc c/\Tc c < 256)/\(0<=Tb c/\Tb c < 256):=λc=>⟨I0 _ _,I0 _ _⟩
 have p2:∀c,Q4 (Db c)=[Tc c,Tb c]:=λc=>N9 (by
  grind)
 have key:Q4 (WO (l.map Db) (bs [58]))=zzQ l:=by
  induction l with
  | nil=>rfl
  | cons c l ih=>
   cases l with
   | nil=>
    show Q4 ⟨(List.intercalate _ [(Db c).data.toList]).toArray⟩=_
    rw[show List.intercalate (bs [58]).data.toList [(Db c).data.toList]=(Db c).data.toList by simp_all]
    exact p2 c
   | cons d l=>
    have e:WO ((c :: d :: l).map Db) (bs [58])=Db c++(bs [58]++WO ((d :: l).map Db) (bs [58])):=by
     refine ByteArray.ext ?_
     simp[WO,Lib.join,List.intercalate,List.intersperse]
    rw[e,Kc,Kc,ih,p2]
    rfl
 refine⟨key,?_⟩
 rw[<-D3,key]
 clear key
 induction l with
 | nil=>simp[zzQ]
 | cons c l ih=>
  cases l with
  | nil=>simp[zzQ]
  | cons d l=>
   grind [List.length_cons,zzQ]
theorem GM(b:Z6)(hv:O2 b=true):Qq (SQ b) (λr=>r=I3 (Hm (X4 b))):=by
 unfold SQ
 refine Qq.fn ?_
 unfold lA
 have hz:=Ws hv
 obtain⟨n1,n2⟩:=N1 (F6 hv).1
 refine Ok.c (Lt b) λr1 h1=>?_
 rw[if_pos hv] at h1
 subst h1
 refine Ok.c (SA (X4 b) (by omega)) λr2 h2=>?_
 subst h2
 have hs:=Wy (X4 b)
 refine Ok.c (R:=λ_=>True) ⟨(),by rfl,trivial⟩ λ_ _=>Ok.g (Ok.g ?_)
 obtain⟨j1,j2⟩:=iY (Q4 (Hm (X4 b)))
 rw[D3,hs] at j2
 refine Ok.AB (r:=(Q4 (Hm (X4 b))).map Db) (by show (match mPr [] (Hm (X4 b)) with|some (.inl r)=>some r|_=>none)=_;grind [bB]) (Ok.v (R:=λr=>r=WO ((Q4 (Hm (X4 b))).map Db) (bs [58])) ?_ λr hr=>?_)
 ·refine⟨_,?_,rfl⟩
  show (iM _ _).run=_
  grind [decide_eq_true,D3,iM,T.run]
 ·have e:r=strOfNums (zzQ (Q4 (Hm (X4 b)))):=by rw[hr,<-j1,YD]
  subst e
  refine Ok.k ?_ (Ok.d rfl)
  rw[hr]
  rw[zA]
  show 8+_<=_
  omega
theorem S9{α:Type}{f:α->Bool}{l:List α}{k:Nat}{x:α}(h:l[k]?=some x)(h1:(l.take k).any f=false):(l.take (k+1)).any f=f x:=by
 rw[List.take_add_one,h,List.any_append,h1];simp
theorem I9{α:Type}{f:α->Bool}{l:List α}{k:Nat}(h:(l.take k).any f=true):l.any f=true:=by
 obtain⟨x,h1,h2⟩:=List.any_eq_true.1 h
 exact List.any_eq_true.2 ⟨x,List.mem_of_mem_take h1,h2⟩
theorem bQ(l:List za)(hl:l.length<=100000):Qq (rL l) (λr=>decide (0<=r)=l.any λx=>!YW x):=by
 unfold rL
 refine Qq.fn ?_
 unfold Qjp
 refine Ok.p (R:=Sum.elim (λe=>0<=e/\(l.any λx=>!YW x)=true) (λ_=>(l.any λx=>!YW x)=false)) ?_ (λe he=>Ok.d (by rw[he.2];simpa using he.1)) λe he=>Ok.d (by rw[show _=false from he];rfl)
 refine Ok.s l.length (by omega) (λk y=>y=(k:Int)/\((l.take k).any λx=>!YW x)=false) ⟨rfl,rfl⟩ (λk y hy hk=>?_) λy hy=>?_
 ·obtain⟨rfl,h1⟩:=hy
  obtain⟨x,hx,hx'⟩:=E4 (l:=l) (k:=k) hk
  have h2:=S9 hx' h1
  have hb:Qq (nM x) (λr=>r=!YW x):=by
   unfold nM
   refine Qq.fn ?_
   unfold Qyu
   exact Ok.c (GU x) λr hr=>Ok.d (by rw[hr])
  refine Ok.t (by rw[M8];simp;omega) (Ok.r (by simp) hx (Ok.c hb λr hr=>Ok.e (λh=>Ok.d ?_) λh=>Ok.d ?_))
  ·exact⟨by omega,I9 (k:=k+1) (by rw[h2,<-hr];exact h)⟩
  ·exact⟨Z9 hk (by omega),by rw[h2,<-hr];exact h⟩
 ·obtain⟨rfl,h1⟩:=hy
  rw[List.take_length] at h1
  exact Ok.f (by rw[M8];simp) (Ok.d h1)
theorem xR(l:List za)(hl:l.length<=100000):Qq (RM l) (λr=>decide (0<=r)=l.any λx=>!decide (x.size=32)):=by
 unfold RM
 refine Qq.fn ?_
 unfold jN
 refine Ok.p (R:=Sum.elim (λe=>0<=e/\(l.any λx=>!decide (x.size=32))=true) (λ_=>(l.any λx=>!decide (x.size=32))=false)) ?_ (λe he=>Ok.d (by rw[he.2];simpa using he.1)) λe he=>Ok.d (by rw[show _=false from he];rfl)
 refine Ok.s l.length (by omega) (λk y=>y=(k:Int)/\((l.take k).any λx=>!decide (x.size=32))=false) ⟨rfl,rfl⟩ (λk y hy hk=>?_) λy hy=>?_
 ·obtain⟨rfl,h1⟩:=hy
  obtain⟨x,hx,hx'⟩:=E4 (l:=l) (k:=k) hk
  have h2:=S9 hx' h1
  have hb:Qq (rF x) (λr=>r=!decide (x.size=32)):=by
   unfold rF
   refine Qq.fn ?_
   unfold Qjs
   refine Ok.d ?_
   rw[Bool.eq_iff_iff];simp;omega
  refine Ok.t (by rw[M8];simp;omega) (Ok.r (by simp) hx (Ok.c hb λr hr=>Ok.e (λh=>Ok.d ?_) λh=>Ok.d ?_))
  ·exact⟨by omega,I9 (k:=k+1) (by rw[h2,<-hr];exact h)⟩
  ·exact⟨Z9 hk (by omega),by rw[h2,<-hr];exact h⟩
 ·obtain⟨rfl,h1⟩:=hy
  rw[List.take_length] at h1
  exact Ok.f (by rw[M8];simp) (Ok.d h1)
theorem xG(l:List za)(hl:l.length<=100000):Qq (RK l) (λr=>decide (0<=r)=l.any λx=>!YW x):=by
 unfold RK
 refine Qq.fn ?_
 unfold jG
 refine Ok.p (R:=Sum.elim (λe=>0<=e/\(l.any λx=>!YW x)=true) (λ_=>(l.any λx=>!YW x)=false)) ?_ (λe he=>Ok.d (by rw[he.2];simpa using he.1)) λe he=>Ok.d (by rw[show _=false from he];rfl)
 refine Ok.s l.length (by omega) (λk y=>y=(k:Int)/\((l.take k).any λx=>!YW x)=false) ⟨rfl,rfl⟩ (λk y hy hk=>?_) λy hy=>?_
 ·obtain⟨rfl,h1⟩:=hy
  obtain⟨x,hx,hx'⟩:=E4 (l:=l) (k:=k) hk
  have h2:=S9 hx' h1
  have hb:Qq (pR x) (λr=>r=!YW x):=by
   unfold pR
   refine Qq.fn ?_
   unfold Quv
   exact Ok.c (bM x) λr hr=>Ok.d (by rw[<-hr];rfl)
  refine Ok.t (by rw[M8];simp;omega) (Ok.r (by simp) hx (Ok.c hb λr hr=>Ok.e (λh=>Ok.d ?_) λh=>Ok.d ?_))
  ·exact⟨by omega,I9 (k:=k+1) (by rw[h2,<-hr];exact h)⟩
  ·exact⟨Z9 hk (by omega),by rw[h2,<-hr];exact h⟩
 ·obtain⟨rfl,h1⟩:=hy
  rw[List.take_length] at h1
  exact Ok.f (by rw[M8];simp) (Ok.d h1)
theorem aY(l:List za)(hl:l.length<=100000):Qq (pP l) (λr=>r=l.any λx=>!YW x):=by
 unfold pP
 refine Qq.fn ?_
 unfold Qh0
 exact Ok.c (bQ l hl) λr hr=>Ok.d hr
theorem yH(l:List za)(hl:l.length<=100000):Qq (RO l) (λr=>r=l.any λx=>!decide (x.size=32)):=by
 unfold RO
 refine Qq.fn ?_
 unfold jS
 exact Ok.c (xR l hl) λr hr=>Ok.d hr
theorem yU(l:List za)(hl:l.length<=100000):Qq (RI l) (λr=>r=l.any λx=>!YW x):=by
 unfold RI
 refine Qq.fn ?_
 unfold jP
 exact Ok.c (xG l hl) λr hr=>Ok.d hr
theorem DP{α:Type}(f:α->Bool)(l:List α):(!l.any λx=>!f x)=l.all f:=by induction l<;>simp_all
theorem Wx(l:List za)(hl:l.length<=100000):Qq (Ck l) (λr=>r=l.all λx=>decide (x.size=32)):=by
 unfold Ck
 refine Qq.fn ?_
 unfold Qh1
 exact Ok.c (yH l hl) λr hr=>Ok.d (by rw[hr,DP])
theorem sV(l:List za)(p:za)(hl:l.length<=100000):Qq (s93 l p) (λr=>decide (r < 0)=!l.any λx=>decide (p=x)):=by
 unfold s93
 refine Qq.fn ?_
 unfold g93
 refine Ok.p (R:=Sum.elim (λe=>0<=e/\(l.any λx=>decide (p=x))=true) (λ_=>(l.any λx=>decide (p=x))=false)) ?_ (λe he=>Ok.d (by rw[he.2];simpa using he.1)) λe he=>Ok.d (by rw[show _=false from he];rfl)
 refine Ok.s l.length (by omega) (λk y=>y=(k:Int)/\((l.take k).any λx=>decide (p=x))=false) ⟨rfl,rfl⟩ (λk y hy hk=>?_) λy hy=>?_
 ·obtain⟨rfl,h1⟩:=hy
  obtain⟨x,hx,hx'⟩:=E4 (l:=l) (k:=k) hk
  have h2:=S9 hx' h1
  refine Ok.t (by rw[M8];simp;omega) (Ok.r (by simp) hx (Ok.e (λh=>Ok.d ?_) λh=>Ok.d ?_))
  ·exact⟨by omega,I9 (k:=k+1) (by rw[h2];exact h)⟩
  ·exact⟨Z9 hk (by omega),by rw[h2];exact h⟩
 ·obtain⟨rfl,h1⟩:=hy
  rw[List.take_length] at h1
  exact Ok.f (by rw[M8];simp) (Ok.d h1)
def CH(b:Z6)(l:List za):Int:=bif !O2 b then 180 else bif decide (8 < l.length) then 3 else bif (l.any λx=>!YW x) then 5 else bif (l.any λx=>decide (I3 (Hm (X4 b))=x)) then 0 else 4
def UR(b:Z6)(l:List za)(now:Int):Int:=bif CH b l != 0 then CH b l else bif decide (now < 0) || decide (1099511627776 < now) then 2 else bif decide (now < b.fG) || decide (b.fH < now) then 10 else 0
theorem yE(b:Z6)(l:List za):Qq (nE b l) (λr=>r.2=CH b l):=by
 unfold nE
 refine Qq.fn ?_
 unfold Qyh CH
 refine Ok.c (Ml b) λr hr=>?_
 subst hr
 refine Ok.e (λh=>Ok.d ?_) λh=>?_
 ·rw[h];rfl
 ·rw[h]
  have hv:O2 b=true:=by simpa using h
  refine Ok.e (λh=>Ok.d ?_) λh=>?_
  ·rw[show decide (8 < l.length)=true from by rw[M8] at h;simp at h ⊢;omega];rfl
  ·have hl:l.length<=8:=by rw[M8] at h;simp at h;omega
   rw[show decide (8 < l.length)=false from by simp;omega]
   refine Ok.c (aY l (by omega)) λr hr=>?_
   subst hr
   refine Ok.e (λh=>Ok.d (by rw[h];rfl)) λh=>?_
   rw[h]
   refine Ok.c (GM b hv) λp hp=>Ok.c (sV l p (by omega)) λr hr=>?_
   subst hp
   rw[hr]
   refine Ok.e (λh=>Ok.d ?_) λh=>Ok.d ?_
   ·rw[show (l.any _)=false from by simpa only[wa] using h];rfl
   ·rw[show (l.any _)=true from by simpa only[Bool.not_eq_false'] using h];rfl
theorem bE(b:Z6)(l:List za)(now:Int):Qq (nI b l now) (λr=>r=UR b l now):=by
 unfold nI
 refine Qq.fn ?_
 unfold Qyx UR
 refine Ok.c (yE b l) λr hr=>?_
 rw[hr]
 refine Ok.e (λh=>Ok.d (by rw[h];rfl)) λh=>?_
 rw[h]
 refine Ok.n (R:=λc=>c=(decide (now < 0) || decide (1099511627776 < now))) (Ok.e (λh=>Ok.d (by rw[h];rfl)) λh=>Ok.d (by rw[h];rfl)) λc hc=>?_
 subst hc
 refine Ok.e (λh=>Ok.d (by rw[h];rfl)) λh=>?_
 rw[h]
 refine Ok.n (R:=λc=>c=(decide (now < b.fG) || decide (b.fH < now))) (Ok.e (λh=>Ok.d (by rw[h];rfl)) λh=>Ok.d (by rw[h];rfl)) λc hc=>?_
 subst hc
 exact Ok.e (λh=>Ok.d (by rw[h];rfl)) λh=>Ok.d (by rw[h];rfl)
def P7(n:Z1):Bool:=decide (0<=n.ft)&&(decide (n.ft<=255)&&(decide (0<=n.fZ)&&(decide (n.fZ < 65536)&&decide ((n.fk.size:Int)<=4000))))
def N0(n:Int):Bool:=decide (0<=n)&&decide (n<=1099511627776)
def Hq(k:Int):Int:=if k=1 then 400 else if k=2 then 800 else if k=3 then 1600 else if k=4 then 3200 else 6400
def Uu(t:Z8):Bool:=bif t.fF==-1 then t.fX==0&&t.fM==0 else decide (0<=t.fF)&&(decide (1<=t.fM)&&(decide (t.fM<=8)&&t.fX==Hq t.fM))
def nY:Z8:=⟨-1,0,0⟩
def stZ:Z8:=⟨0,0,0⟩
def Rg(now:Int):Z8:=⟨now+400,400,1⟩
def JL(t:Z8)(now:Int):Bool×Int:=bif !Uu t then (false,192) else bif !N0 now then (false,2) else (decide (0<=t.fF)&&decide (t.fF<=now),0)
def NX(t:Z8)(now:Int):Z8×Int:=bif (JL t now).2 != 0 then (stZ,(JL t now).2) else bif !(JL t now).1 then (stZ,8) else bif t.fM==8 then (stZ,4) else (⟨now+Hq (t.fM+1),Hq (t.fM+1),t.fM+1⟩,0)
theorem JW(n m:Int):Qq (RL n m) (λr=>r=(decide (0<=n)&&decide (n<=m))):=by
 unfold RL
 refine Qq.fn ?_
 unfold Qh6
 refine Ok.n (R:=λr=>r=(decide (0<=n)&&decide (n<=m))) (Ok.e (by grind [Ok.d]) (by grind [Ok.d])) λr hr=>Ok.d hr
theorem GH(n:Z1):Qq (s58 n) (λr=>r=bif P7 n then 0 else 190):=by
 unfold s58
 refine Qq.fn ?_
 unfold g58
 refine Ok.n (R:=λc=>c=!P7 n) ?_ λc hc=>?_
 ·unfold P7
  refine Ok.c (JW _ _) λr hr=>Ok.e (λh=>Ok.d ?_) λh=>Ok.c (JW _ _) λr2 hr2=>Ok.e (λh2=>Ok.d ?_) λh2=>Ok.d ?_
  all_goals grind
 grind [Ok.e,Ok.d,P7]
theorem XG(n:Z1):Qq (dM n) (λr=>r=P7 n):=by
 unfold dM
 refine Qq.fn ?_
 unfold Qum
 refine Ok.n (R:=λc=>c=P7 n) ?_ λc hc=>Ok.d hc
 unfold P7
 repeat' first
  | refine Ok.e (λh=>?_) (λh=>?_)
  | refine Ok.d ?_
 all_goals grind
theorem SX(k:Int)(h:1<=k/\k<=8):Qq (rO k) (λr=>r=Hq k):=by
 have:k=1\/k=2\/k=3\/k=4\/k=5\/k=6\/k=7\/k=8:=by omega
 rcases this with rfl|rfl|rfl|rfl|rfl|rfl|rfl|rfl<;>exact⟨_,by kernel_rfl,by rfl⟩
theorem IS(k:Int)(h:1<=k/\k<=8):Qq (VE k) (λr=>r=Hq k):=by
 have:k=1\/k=2\/k=3\/k=4\/k=5\/k=6\/k=7\/k=8:=by omega
 have e:∀k v,(VE k).o=some v->v=Hq k->Qq (VE k) (λr=>r=Hq k):=λk v h1 h2=>⟨v,h1,h2⟩
 rcases this with rfl|rfl|rfl|rfl|rfl|rfl|rfl|rfl
 ·exact e 1 400 (by kernel_rfl) rfl
 ·exact e 2 800 (by kernel_rfl) rfl
 ·exact e 3 1600 (by kernel_rfl) rfl
 ·exact e 4 3200 (by kernel_rfl) rfl
 all_goals exact e _ 6400 (by kernel_rfl) rfl
theorem yQ(t:Z8):Qq (dX t) (λr=>r=bif Uu t then 0 else 192):=by
 unfold dX
 refine Qq.fn ?_
 unfold Qub
 refine Ok.n (R:=λc=>c=!Uu t) ?_ λc hc=>?_
 ·unfold Uu
  cases ha:(t.fF==-1) with
  | true=>
   have h0:t.fF < 0:=by grind
   simp only[Bool.true_and,Bool.and_true,cond_true]
   grind [Ok.e,Ok.t,Ok.d]
  | false=>
   simp only[Bool.false_and,Bool.not_false,cond_false]
   refine Ok.t rfl (Ok.e (λh1=>Ok.d ?_) λh1=>Ok.e (λh2=>Ok.d ?_) λh2=>Ok.e (λh3=>Ok.d ?_) λh3=>Ok.c (SX _ (by simp at h2 h3;omega)) λr hr=>Ok.d ?_)
   ·grind
   ·grind
   ·grind
   grind
 grind [Ok.e,Ok.d,Uu]
theorem GQ(t:Z8):Qq (Dg t) (λr=>r=Uu t):=by
 unfold Dg
 refine Qq.fn ?_
 unfold Qh4 Uu
 refine Ok.e (λh=>?_) λh=>?_
 ·rw[h]
  exact Ok.n (R:=λc=>c=(t.fX==0&&t.fM==0)) (Ok.e (by grind [Ok.d]) (by grind [Ok.d])) λc hc=>Ok.d hc
 ·rw[h]
  refine Ok.n (R:=λc=>c=(decide (0<=t.fF)&&(decide (1<=t.fM)&&(decide (t.fM<=8)&&t.fX==Hq t.fM)))) (Ok.e (λh=>?_) (by grind [Ok.d])) λc hc=>Ok.d hc
  grind [Ok.e,Ok.d,Ok.c,IS]
theorem qV(t:Z8)(now:Int):Qq (dH t now) (λr=>r=JL t now):=by
 unfold dH
 refine Qq.fn ?_
 unfold Qu0 JL N0
 refine Ok.c (yQ t) λr hr=>?_
 subst hr
 cases Uu t with
 | false=>exact Ok.t rfl (Ok.d rfl)
 | true=>
  refine Ok.f rfl (Ok.c (JW _ _) λr hr=>?_)
  grind [Ok.e,Ok.d,Ok.c,JW]
theorem SB(now:Int):(decide (now < 0) || decide ((1099511627776:Int) < now))=!N0 now:=by
 unfold N0
 grind
theorem GZ(t:Z8)(now:Int):Qq (s77 t now) (λr=>r=JL t now):=by
 unfold s77
 refine Qq.fn ?_
 unfold g77 JL
 refine Ok.c (GQ t) λr hr=>?_
 subst hr
 refine Ok.e (by grind [Ok.d]) λh=>?_
 rw[h]
 refine Ok.n (R:=λc=>c=!N0 now) (by grind [SB,Ok.e,Ok.d]) λc hc=>?_
 subst hc
 refine Ok.e (by grind [Ok.d]) λh=>?_
 rw[h]
 exact Ok.n (R:=λc=>c=(decide (0<=t.fF)&&decide (t.fF<=now))) (Ok.e (by grind [Ok.d]) (by grind [Ok.d])) (by grind [Ok.d])
theorem ND{t:Z8}{now:Int}(h:((JL t now).2 != 0)=false)(h2:(!(JL t now).1)=false):N0 now=true/\1<=t.fM/\t.fM<=8:=by
 unfold JL at h h2
 cases ht:Uu t with
 | false=>grind
 | true=>
  cases hn:N0 now with
  | false=>grind
  | true=>
   refine⟨rfl,?_⟩
   rw[ht,hn] at h2
   simp only[Bool.not_true,cond_false,Bool.not_eq_false',zD,zA] at h2
   unfold Uu at ht
   grind
theorem gZ{t:Z8}{now:Int}(h:N0 now=true/\1<=t.fM/\t.fM<=8):Q0 (t.fM+1)=t.fM+1/\Q0 (now+Hq (t.fM+1))=now+Hq (t.fM+1):=by
 obtain⟨h1,h2,h3⟩:=h
 unfold N0 at h1
 simp only[zD,zA] at h1
 grind [Z4,Hq]
theorem yZ(t:Z8)(now:Int):Qq (rR t now) (λr=>r=NX t now):=by
 unfold rR
 refine Qq.fn ?_
 unfold Qjv NX
 refine Ok.c (qV t now) λr hr=>?_
 subst hr
 refine Ok.e (λh=>Ok.d (by rw[h];rfl)) λh=>?_
 rw[h]
 refine Ok.e (λh2=>Ok.d (by rw[h2];rfl)) λh2=>?_
 rw[h2]
 refine Ok.e (λh3=>Ok.d (by rw[h3];rfl)) λh3=>?_
 rw[h3]
 have f:=ND h h2
 obtain⟨e1,e2⟩:=gZ f
 grind [Ok.c,SX,Ok.d]
theorem Px(t:Z8)(now:Int):Qq (s78 t now) (λr=>r=NX t now):=by
 unfold s78
 refine Qq.fn ?_
 unfold g78 NX
 refine Ok.c (GZ t now) λr hr=>?_
 subst hr
 refine Ok.e (λh=>Ok.d (by rw[h];rfl)) λh=>?_
 rw[h]
 refine Ok.e (λh2=>Ok.d (by rw[h2];rfl)) λh2=>?_
 rw[h2]
 refine Ok.e (λh3=>Ok.d (by rw[h3];rfl)) λh3=>?_
 rw[h3]
 have f:=ND h h2
 obtain⟨e1,e2⟩:=gZ f
 grind [Ok.c,IS,Ok.d]
theorem qC(now:Int)(h:N0 now=true):Qq (nT now) (λr=>r=(Rg now,0)):=by
 unfold nT
 refine Qq.fn ?_
 unfold Qj5
 have h':=h
 unfold N0 at h'
 refine Ok.c (JW _ _) λr hr=>Ok.f (by grind) (Ok.d ?_)
 simp only[zD,zA] at h'
 rw[Z4 (by omega) (by omega)];rfl
theorem Pd(now:Int)(h:N0 now=true):Qq (pD now) (λr=>r=(Rg now,0)):=by
 unfold pD
 refine Qq.fn ?_
 unfold Quk
 refine Ok.n (R:=λc=>c=!N0 now) (by grind [SB,Ok.e,Ok.d]) λc hc=>Ok.f (by grind) (Ok.d ?_)
 unfold N0 at h
 simp only[zD,zA] at h
 rw[Z4 (by omega) (by omega)];rfl
theorem Wd:Qq s68 (λr=>r=nY):=⟨_,rfl,rfl⟩
theorem xM(l:List Z1)(hl:l.length<=100000):Qq (s38 l l) (λr=>r=true):=by
 unfold s38
 refine Qq.fn ?_
 unfold g38
 refine Ok.f (by simp) (Ok.p (R:=Sum.elim (λ_=>False) (λ_=>True)) ?_ (λe he=>he.elim) λe _=>Ok.d rfl)
 refine Ok.s l.length (by omega) (λk y=>y=(k:Int)) rfl (λk y hy hk=>?_) λy hy=>?_
 ·subst hy
  obtain⟨x,hx,hx'⟩:=E4 (l:=l) (k:=k) hk
  grind [Ok.t,M8,Ok.r,Ok.f,Ok.d,Z9]
 ·subst hy
  exact Ok.f (by rw[M8];simp) (Ok.d trivial)
structure Sm(s:Q2):Prop where
 bd:s.fe.size<=100000
 pb:s.fh.fe.size<=100000
 td:s.fE.size<=100000
 rn:s.fq.size<=100000
 pr:s.fp.length<=1000
 ps:∀p,p∈s.fp->p.size<=100000
 ls:s.fo.length<=1000
def UW(s:za):Bool:=decide (s.size=32)
def WS(s:za):Bool:=decide (s=zd)
def Hu(s:Q2)(x:H1):Int:=if x.QC=1 then x.ZP+(s.fe.size:Int) else if x.QC=2 then x.ZP+(s.fe.size:Int)+(s.fh.fe.size:Int) else x.ZP
def Mu(s:Q2)(k:Int):Bool:=if k=0 then WS s.fh.fq&&(WS s.fh.fP&&(WS s.fh.fe&&WS s.fI)) else if k=1 then UW s.fh.fq&&(UW s.fh.fP&&(WS s.fh.fe&&WS s.fI)) else UW s.fh.fq&&(UW s.fh.fP&&(UW s.fI&&okB s.fh.fe))
def UI(s:Q2)(k:Int):Bool:=if k=0 then decide (s.fo.length=0) else match s.fo with
 | [n]=>P7 n&&(n.ft==k&&n.fZ==Q0 (s.fm - 1))
 | _=>false
def S5(s:Q2)(x:H1):Bool:=s.fB==x.JD&&(s.fw==x.Zv&&(decide (x.Yr<=s.fm)&&(decide (s.fm<=x.JX)&&((s.fE.size:Int)==Hu s x&&(x.KQ==decide (0<=s.fA.fF)&&(Mu s x.QC&&UI s x.ET))))))
def W6:List H1:=[⟨1,1,0,0,0,0,0,false⟩,⟨2,1,0,0,0,0,0,false⟩,⟨2,1,1,6,0,0,2,false⟩,⟨1,2,1,1,0,0,1,true⟩,⟨1,3,2,7,100,0,1,true⟩,⟨2,4,1,7,168,1,3,true⟩,⟨1,5,3,8,204,2,4,true⟩,⟨1,6,3,8,240,2,0,false⟩,⟨2,6,2,8,240,2,5,false⟩,⟨1,7,0,8,0,0,0,false⟩,⟨2,7,0,8,0,0,0,false⟩]
def Rk(s:Q2):Bool:=if s.fw=7 then s.gc==2 || (s.gc==4 || (s.gc==6 || (s.gc==9 || s.gc==10))) else s.gc==0
def WV(s:Q2):Bool:=if s.fB=2 then UW s.fT else WS s.fT
def Lw(s:Q2):Bool:=decide (s.fp.length<=8)&&s.fp.all YW
def iX(s:Q2):Bool:=N0 s.fj&&(UW s.fV&&(UW s.fQ&&(UW s.fq&&(WV s&&(Lw s&&(okB s.fe&&(Uu s.fA&&Rk s)))))))
def QB(s:Q2):Bool:=iX s&&W6.any (S5 s)
theorem SD(s:za)(hs:s.size<=100000):Qq (dA s) (λr=>r=okB s):=by
 grind [oF,Qq.fn,Ok.c,Ea,Ok.d,dA,Quc,YZ,okB]
theorem xB(m:Q9)(x:H1)(h:Sm m.fc)(hx:x∈W6):Qq (rX m x) (λr=>r=Hu m.fc x):=by
 have ht:0<=x.ZP/\x.ZP<=1000:=by
  have:(W6.all λx=>decide (0<=x.ZP/\x.ZP<=1000))=true:=by decide
  grind
 have b:=h.bd
 have p:=h.pb
 unfold rX
 refine Qq.fn ?_
 unfold Qjg Hu
 refine Ok.e (λh1=>Ok.d ?_) λh1=>Ok.e (λh2=>Ok.d ?_) λh2=>Ok.d ?_
 ·rw[if_pos (by simpa using h1),Z4 (by omega) (by omega)]
 ·rw[if_neg (by simpa using h1),if_pos (by simpa using h2),Z4 (n:=x.ZP+_) (by omega) (by omega),Z4 (by omega) (by omega)]
 grind
theorem Y7{P:Program}{G:ze}{a:Nat}{c d:Bool}{y:T P G Bool}(h:c=true->Ok y (λr=>r=d)):Ok (.br a c y (.done false)) (λr=>r=(c&&d)):=by
 simp_all [Ok.e,Ok.d,Bool.true_and]
theorem EZ{P:Program}{G:ze}{a:Nat}{c d:Bool}{y:T P G Bool}(h:c=false->Ok y (λr=>r=!d)):Ok (.br a c (.done true) y) (λr=>r=!(!c&&d)):=by
 simp_all [Ok.e,Ok.d]
theorem int32(s:za):((s.size:Int)==32)=UW s:=by unfold UW;grind
theorem Pc(a b:Int):decide (a < b)=!decide (b<=a):=by grind
theorem GR{l:List Z1}(h:l.length=1):∃n,l=[n]:=by
 match l,h with
 | [n],_=>grind
theorem xC(m:Q9)(x:H1)(h:Sm m.fc)(hx:x∈W6):Qq (pL m x) (λr=>r=S5 m.fc x):=by
 unfold pL
 refine Qq.fn ?_
 unfold Qur S5
 refine Ok.n (R:=λc=>c=!(m.fc.fB==x.JD&&(m.fc.fw==x.Zv&&(decide (x.Yr<=m.fc.fm)&&(decide (m.fc.fm<=x.JX)&&((m.fc.fE.size:Int)==Hu m.fc x&&x.KQ==decide (0<=m.fc.fA.fF))))))) ?_ λc hc=>?_
 ·have f:∀b:Bool,b=!(!b):=λb=>by simp
  have e1:(m.fc.fB==x.JD)=!(m.fc.fB != x.JD):=by simp[bne]
  have e2:(m.fc.fw==x.Zv)=!(m.fc.fw != x.Zv):=by simp[bne]
  have e3:decide (x.Yr<=m.fc.fm)=!decide (m.fc.fm < x.Yr):=by grind
  have e4:decide (m.fc.fm<=x.JX)=!decide (x.JX < m.fc.fm):=by grind
  rw[e1,e2,e3,e4]
  refine EZ λ_=>EZ λ_=>EZ λ_=>EZ λ_=>Ok.c (xB m x h hx) λr hr=>?_
  subst hr
  rw[show ((m.fc.fE.size:Int)==Hu m.fc x)=!((m.fc.fE.size:Int) != Hu m.fc x) by simp[bne]]
  exact EZ λ_=>Ok.d rfl
 ·generalize ((m.fc.fE.size:Int)==Hu m.fc x)=A at *
  generalize (x.KQ==decide (0<=m.fc.fA.fF))=B at *
  generalize (m.fc.fB==x.JD)=c1 at *
  generalize (m.fc.fw==x.Zv)=c2 at *
  generalize decide (x.Yr<=m.fc.fm)=c3 at *
  generalize decide (m.fc.fm<=x.JX)=c4 at *
  subst hc
  have re:(c1&&(c2&&(c3&&(c4&&(A&&(B&&(Mu m.fc x.QC&&UI m.fc x.ET)))))))=((c1&&(c2&&(c3&&(c4&&(A&&B)))))&&(Mu m.fc x.QC&&UI m.fc x.ET)):=by grind
  rw[re]
  generalize (c1&&(c2&&(c3&&(c4&&(A&&B)))))=C
  cases C with
  | false=>exact Ok.t rfl (Ok.d rfl)
  | true=>
   refine Ok.f rfl ?_
   rw[Bool.true_and]
   refine Ok.b (R:=λe=>e=Mu m.fc x.QC) ?_ λe he=>?_
   ·unfold Mu
    refine Ok.e (λh1=>?_) λh1=>Ok.e (λh2=>?_) λh2=>?_
    ·rw[if_pos (by simpa using h1)]
     refine Ok.n (R:=λc=>c=_) ?_ λc hc=>Ok.d hc
     rw[Bool.and_true,show (WS m.fc.fh.fq&&(WS m.fc.fh.fP&&(WS m.fc.fh.fe&&WS m.fc.fI)))=((WS m.fc.fh.fq&&(WS m.fc.fh.fP&&WS m.fc.fh.fe))&&WS m.fc.fI) by simp only[Bool.and_assoc]]
     exact Y7 λ_=>Ok.d rfl
    ·rw[if_neg (by simpa using h1),if_pos (by simpa using h2)]
     refine Ok.n (R:=λc=>c=_) ?_ λc hc=>Ok.d hc
     refine Ok.v (Wx _ (by simp)) λr hr=>?_
     rw[show (UW m.fc.fh.fq&&(UW m.fc.fh.fP&&(WS m.fc.fh.fe&&WS m.fc.fI)))=(r&&(WS m.fc.fh.fe&&WS m.fc.fI)) by rw[hr];simp only[List.all_cons,List.all_nil,Bool.and_true,Bool.and_assoc];rfl]
     exact Y7 λ_=>Y7 λ_=>Ok.d rfl
    ·rw[if_neg (by simpa using h1),if_neg (by simpa using h2)]
     refine Ok.n (R:=λc=>c=_) ?_ λc hc=>Ok.d hc
     refine Ok.v (Wx _ (by simp)) λr hr=>?_
     rw[show (UW m.fc.fh.fq&&(UW m.fc.fh.fP&&(UW m.fc.fI&&okB m.fc.fh.fe)))=(r&&okB m.fc.fh.fe) by rw[hr];simp only[List.all_cons,List.all_nil,Bool.and_true,Bool.and_assoc];rfl]
     exact Y7 λ_=>Ok.c (SD _ h.pb) λr hr=>Ok.d hr
   ·subst he
    unfold UI
    refine Ok.e (λh1=>?_) λh1=>?_
    ·rw[if_pos (by simpa using h1)]
     refine Ok.n (R:=λc=>c=_) ?_ λc hc=>Ok.d hc
     refine Y7 λ_=>Ok.d ?_
     rw[M8,Bool.eq_iff_iff];simp
    ·rw[if_neg (by simpa using h1)]
     refine Ok.n (R:=λc=>c=_) ?_ λc hc=>Ok.d hc
     refine Y7 λ_=>?_
     refine Ok.e (λh2=>?_) λh2=>Ok.d ?_
     ·obtain⟨n,hn⟩:=GR (l:=m.fc.fo) (by rw[M8] at h2;simp at h2;omega)
      rw[hn]
      refine Ok.r rfl rfl (Ok.c (GH n) λr hr=>?_)
      have er:(r==0)=P7 n:=by grind
      rw[er]
      exact Y7 λ_=>Ok.r rfl rfl (Y7 λ_=>Ok.r rfl rfl (Ok.d rfl))
     grind [M8]
theorem xF(m:Q9)(h:Sm m.fc):Qq (rA W6 m) (λr=>decide (0<=r)=W6.any (S5 m.fc)):=by
 unfold rA
 refine Qq.fn ?_
 unfold Qjn
 refine Ok.p (R:=Sum.elim (λe=>0<=e/\W6.any (S5 m.fc)=true) (λ_=>W6.any (S5 m.fc)=false)) ?_ (by grind [Ok.d]) (by grind [Ok.d])
 refine Ok.s W6.length (by decide) (λk y=>y=(k:Int)/\(W6.take k).any (S5 m.fc)=false) ⟨rfl,rfl⟩ (λk y hy hk=>?_) λy hy=>?_
 ·obtain⟨rfl,h1⟩:=hy
  obtain⟨x,hx,hx'⟩:=E4 (l:=W6) (k:=k) hk
  have h2:=S9 hx' h1
  refine Ok.t (by grind [M8]) (Ok.r (by simp) hx (Ok.c (xC m x h (zP hx')) λr hr=>?_))
  subst hr
  refine Ok.e (λh=>Ok.d ?_) λh=>Ok.d ?_
  ·grind
  ·exact⟨Z9 hk (by decide),by grind⟩
 ·obtain⟨rfl,h1⟩:=hy
  grind [List.take_length,Ok.f,M8,Ok.d]
theorem aJ(l:List Int)(w:Int)(hl:l.length<=100):Qq (pG l w) (λr=>r=l.any λx=>w==x):=by
 have h1:Qq (rI l w) (λr=>decide (0<=r)=l.any λx=>w==x):=by
  unfold rI
  refine Qq.fn ?_
  unfold Qjr
  refine Ok.p (R:=Sum.elim (λe=>0<=e/\(l.any λx=>w==x)=true) (λ_=>(l.any λx=>w==x)=false)) ?_ (by grind [Ok.d]) (by grind [Ok.d])
  refine Ok.s l.length (by omega) (λk y=>y=(k:Int)/\((l.take k).any λx=>w==x)=false) ⟨rfl,rfl⟩ (λk y hy hk=>?_) λy hy=>?_
  ·obtain⟨rfl,h1⟩:=hy
   grind [E4,S9,Ok.t,M8,Ok.r,Ok.e,Ok.d,I9,Z9]
  ·obtain⟨rfl,h1⟩:=hy
   grind [List.take_length,Ok.f,M8,Ok.d]
 grind [oF,Qq.fn,Ok.c,Ok.d,pG,Qus]
theorem qB(m:Q9)(h:Sm m.fc):Qq (s65 m) (λr=>r=QB m.fc):=by
 unfold s65
 refine Qq.fn ?_
 unfold g65
 refine Ok.b (R:=λe=>e=WV m.fc) ?_ λe he=>?_
 ·unfold WV
  refine Ok.e (λh1=>Ok.v (Wx _ (by simp)) λr hr=>Ok.d ?_) λh1=>Ok.d ?_
  ·rw[if_pos (by simpa using h1),hr];simp only[List.all_cons,List.all_nil,Bool.and_true];rfl
  ·rw[if_neg (by simpa using h1)];rfl
 subst he
 refine Ok.b (R:=λl=>l.length<=100/\(l.any λx=>m.fc.gc==x)=Rk m.fc) ?_ λl hl=>?_
 ·unfold Rk
  refine Ok.e (λh1=>Ok.g (Ok.d ?_)) λh1=>Ok.g (Ok.d ?_)
  ·grind
  grind
 refine Ok.n (R:=λc=>c=Lw m.fc) ?_ λc hc=>?_
 ·unfold Lw
  rw[show decide (m.fc.fp.length<=8)=decide (M6 Z2 m.fc.fp<=8) by rw[M8];grind]
  exact Y7 λ_=>Ok.c (yU _ (by have:=h.pr;omega)) (by grind [Ok.d,DP])
 subst hc
 refine Ok.n (R:=λc=>c=(N0 m.fc.fj&&(UW m.fc.fV&&(UW m.fc.fQ&&(UW m.fc.fq&&(WV m.fc&&(Lw m.fc&&okB m.fc.fe))))))) ?_ λc hc=>?_
 ·unfold N0
  rw[Bool.and_assoc]
  refine Y7 λ_=>Y7 λ_=>Ok.v (Wx _ (by simp)) λr hr=>?_
  rw[show (UW m.fc.fV&&(UW m.fc.fQ&&(UW m.fc.fq&&(WV m.fc&&(Lw m.fc&&okB m.fc.fe)))))=(r&&(WV m.fc&&(Lw m.fc&&okB m.fc.fe))) by rw[hr];simp only[List.all_cons,List.all_nil,Bool.and_true,Bool.and_assoc];rfl]
  exact Y7 λ_=>Y7 λ_=>Y7 λ_=>Ok.c (SD _ h.bd) λr hr=>Ok.d hr
 refine Ok.n (R:=λc=>c=QB m.fc) ?_ λc hc=>Ok.d hc
 unfold QB iX
 rw[show (N0 m.fc.fj&&(UW m.fc.fV&&(UW m.fc.fQ&&(UW m.fc.fq&&(WV m.fc&&(Lw m.fc&&(okB m.fc.fe&&(Uu m.fc.fA&&Rk m.fc))))))))=(c&&(Uu m.fc.fA&&Rk m.fc)) by rw[hc];simp only[Bool.and_assoc],Bool.and_assoc,Bool.and_assoc]
 refine Y7 λ_=>Ok.c (yQ _) λr hr=>?_
 rw[show Uu m.fc.fA=(r==0) by rw[hr];cases Uu m.fc.fA<;>rfl]
 refine Y7 λ_=>Ok.v (aJ l _ hl.1) λr hr=>?_
 rw[<-hl.2,<-hr]
 refine Y7 λ_=>Ok.c (R:=λr=>r=W6) ⟨_,rfl,rfl⟩ λr hr=>?_
 subst hr
 have h2:Qq (pF W6 m) (λr=>r=W6.any (S5 m.fc)):=by
  grind [oF,Qq.fn,Ok.c,xF,Ok.d,pF,Qup]
 grind [Ok.c,Ok.d]
theorem Mo(s:Q2)(h:Sm s):Qq (Tp s) (λr=>r=bif QB s then 0 else 200):=by
 grind [oF,Qq.fn,Ok.g,Ok.v,qB,Ok.e,Ok.d,Tp,g28,ByteArray.empty,QB]
theorem xP(s:Q2)(h:Sm s):Qq (eO s) (λr=>r=bif !QB s then (0,200) else bif decide (s.fA.fF < 0) then (0,4) else (s.fA.fF,0)):=by
 unfold eO
 refine Qq.fn ?_
 unfold g26
 refine Ok.c (Mo s h) λr hr=>?_
 subst hr
 cases QB s with
 | false=>exact Ok.t rfl (Ok.d rfl)
 | true=>exact Ok.f rfl (by grind [Ok.e,Ok.d])
theorem Yc{n:Int}(h0:0<=n)(h:n < 32):(bif decide (0<=n)&&decide (n < ((32:Nat):Int)) then some () else none)=some ():=by
 grind
theorem Kj{f:zh}{j n:Nat}(hj:j=n)(h:n < 32):(vec f)[j]?=some (f n):=by rw[hj,OM,if_pos h]
theorem xE(a b c:Zu)(hc:∀k,c.getMsbD k=(a.getMsbD k ^^ b.getMsbD k)):Qq (BB a.getMsbD b.getMsbD) (λr=>r=c.getMsbD):=by
 unfold BB
 refine Qq.fn ?_
 unfold Qyf
 refine Ok.o rfl (Ok.o rfl (Ok.o rfl (Ok.o rfl (Ok.b (R:=λe=>e=c.getMsbD) ?_ λe he=>Ok.o rfl (Ok.o rfl (Ok.d he))))))
 refine Ok.s 32 (by decide) (λk y=>y=(λi=>decide (i < k)&&c.getMsbD i,(k:Int))) (by grind) (λk y hy hk=>?_) λy hy=>?_
 ·subst hy
  refine Ok.t (by simp;omega) (Ok.o (r:=()) (Yc (by simp) (by grind)) (Ok.r rfl (Kj (n:=k) (by simp) hk) (Ok.o (r:=()) (Yc (by simp) (by grind)) (Ok.r rfl (Kj (n:=k) (by simp) hk) (Ok.o (r:=()) (Yc (by simp) (by grind)) (Ok.r rfl (Kj (n:=k) (by simp) hk) (Ok.re (Ok.d ?_))))))))
  show (_,_)=_
  rw[Z9 hk (by decide),<-Xx,hc]
  grind
 ·subst hy
  exact Ok.f rfl (Ok.d (Aw _))
theorem Pu(a b:Zu):Qq (BB a.getMsbD b.getMsbD) (λr=>r=(a ^^^ b).getMsbD):=xE a b _ λ_=>BitVec.getMsbD_xor
theorem xO(a b c:Zu)(hc:∀k,c.getMsbD k=(a.getMsbD k&&b.getMsbD k)):Qq (Gw a.getMsbD b.getMsbD) (λr=>r=c.getMsbD):=by
 unfold Gw
 refine Qq.fn ?_
 unfold Qyl
 refine Ok.o rfl (Ok.o rfl (Ok.o rfl (Ok.o rfl (Ok.b (R:=λe=>e=c.getMsbD) ?_ λe he=>Ok.o rfl (Ok.o rfl (Ok.d he))))))
 refine Ok.s 32 (by decide) (λk y=>y=(λi=>decide (i < k)&&c.getMsbD i,(k:Int))) (by grind) (λk y hy hk=>?_) λy hy=>?_
 ·subst hy
  have g:∀x:Bool,x=c.getMsbD k->(FA (λi=>decide (i < k)&&c.getMsbD i) (0+((k:Int)).toNat) x,Q0 ((k:Int)+1))=(λi=>decide (i < k+1)&&c.getMsbD i,((k+1:Nat):Int)):=λx hx=>by
   rw[Z9 hk (by decide),<-Xx,hx]
   grind
  refine Ok.t (by simp;omega) (Ok.o (r:=()) (Yc (by simp) (by grind)) (Ok.r rfl (Kj (n:=k) (by simp) hk) (Ok.e (λh=>?_) λh=>?_)))
  ·exact Ok.o (r:=()) (Yc (by simp) (by grind)) (Ok.r rfl (Kj (n:=k) (by simp) hk) (Ok.o (r:=()) (Yc (by simp) (by grind)) (Ok.r rfl (Kj (n:=k) (by simp) hk) (by grind [Ok.re,Ok.d]))))
  ·exact Ok.o (r:=()) (Yc (by simp) (by grind)) (Ok.r rfl (Kj (n:=k) (by simp) hk) (by grind [Ok.re,Ok.d]))
 ·subst hy
  exact Ok.f rfl (Ok.d (Aw _))
theorem XL(a b:Zu):Qq (Gw a.getMsbD b.getMsbD) (λr=>r=(a &&& b).getMsbD):=xO a b _ λ_=>BitVec.getMsbD_and
theorem xA(a c:Zu)(hc:∀k,c.getMsbD k=(decide (k < 32)&&!a.getMsbD k)):Qq (eP a.getMsbD) (λr=>r=c.getMsbD):=by
 unfold eP
 refine Qq.fn ?_
 unfold Qyo
 refine Ok.o rfl (Ok.o rfl (Ok.o rfl (Ok.b (R:=λe=>e=c.getMsbD) ?_ λe he=>Ok.o rfl (Ok.o rfl (Ok.d he)))))
 refine Ok.s 32 (by decide) (λk y=>y=(λi=>decide (i < k)&&c.getMsbD i,(k:Int))) (by grind) (λk y hy hk=>?_) λy hy=>?_
 ·subst hy
  refine Ok.t (by simp;omega) (Ok.o (r:=()) (Yc (by simp) (by grind)) (Ok.r rfl (Kj (n:=k) (by simp) hk) (Ok.o (r:=()) (Yc (by simp) (by grind)) (Ok.r rfl (Kj (n:=k) (by simp) hk) (Ok.re (Ok.d ?_))))))
  show (_,_)=_
  rw[Z9 hk (by decide),<-Xx,hc]
  grind
 ·subst hy
  exact Ok.f rfl (Ok.d (Aw _))
theorem sN(a:Zu):Qq (eP a.getMsbD) (λr=>r=(~~~a).getMsbD):=xA a _ λ_=>BitVec.getMsbD_not
theorem L1(a:Zu)(c:Nat)(hc:c < 32):Qq (Di a.getMsbD (c:Int)) (λr=>r=(a.rotateRight c).getMsbD):=by
 unfold Di
 refine Qq.fn ?_
 unfold Qyn
 refine Ok.o rfl (Ok.o rfl (Ok.o rfl (Ok.b (R:=λe=>e=(a.rotateRight c).getMsbD) ?_ λe he=>Ok.o rfl (Ok.o rfl (Ok.d he)))))
 have back:∀j,j < 32->(a.rotateRight c).getMsbD j=a.getMsbD ((j+32 - c) % 32):=(by grind)
 refine Ok.s 32 (by decide) (λk y=>y=(λj=>(decide (j < 32)&&decide ((j+32 - c) % 32 < k))&&a.getMsbD ((j+32 - c) % 32),(k:Int))) (by
  grind) (λk y hy hk=>?_) λy hy=>?_
 ·subst hy
  have e1:Int.tmod (Q0 ((k:Int)+(c:Int))) 32=(((k+c) % 32:Nat):Int):=by
   grind [Z4,Int.tmod_eq_emod_of_nonneg]
  have hm:(k+c) % 32 < 32:=Nat.mod_lt _ (by decide)
  refine Ok.t (by simp;omega) (Ok.o (r:=()) (Yc (by simp) (by grind)) (Ok.r rfl (Kj (n:=k) (by simp) hk) (Ok.o (r:=()) (Yc (by rw[e1];omega) (by rw[e1];omega)) (Ok.r rfl (Kj (n:=(k+c) % 32) (by grind) hm) (Ok.re (Ok.d ?_))))))
  show (_,_)=_
  rw[Z9 hk (by decide),e1]
  congr 1
  funext j
  simp only[zJ,zQ,FA]
  by_cases hj:j=(k+c) % 32
  ·subst hj
   have:((k+c) % 32+32 - c) % 32=k:=by omega
   grind
  grind
 ·subst hy
  refine Ok.f rfl (Ok.d ?_)
  grind
theorem Gs(a:Zu)(c:Nat)(hc:c < 32):Qq (eS a.getMsbD (c:Int)) (λr=>r=(a >>> c).getMsbD):=by
 unfold eS
 refine Qq.fn ?_
 unfold Qyg
 refine Ok.o rfl (Ok.o rfl (Ok.o rfl (Ok.b (R:=λe=>e=(a >>> c).getMsbD) ?_ λe he=>Ok.o rfl (Ok.o rfl (Ok.d he)))))
 refine Ok.s (32 - c) (by omega) (λk y=>y=(λj=>(decide (c<=j)&&decide (j < k+c))&&a.getMsbD (j - c),(k:Int))) (by
  grind) (λk y hy hk=>?_) λy hy=>?_
 ·subst hy
  have e1:Q0 ((k:Int)+(c:Int))=((k+c:Nat):Int):=by grind [Z4]
  refine Ok.t (by grind) (Ok.o (r:=()) (Yc (by simp) (by simp;omega)) (Ok.r rfl (Kj (n:=k) (by simp) (by omega)) (Ok.o (r:=()) (Yc (by rw[e1];omega) (by rw[e1];omega)) (Ok.r rfl (Kj (n:=k+c) (by grind) (by omega)) (Ok.re (Ok.d ?_))))))
  show (_,_)=_
  rw[Z9 (n:=32) (by omega) (by decide),e1]
  congr 1
  funext j
  simp only[zJ,zQ,FA]
  grind
 grind [Ok.f,Z4,Ok.d]
theorem lC(a:Zu){k:Nat}(hk:k < 32):a.getMsbD k=decide (a.toNat / 2 ^ (31 - k) % 2=1):=by
 rw[BitVec.getMsbD,BitVec.getLsbD,Nat.testBit_eq_decide_div_mod_eq]
 simp[hk]
theorem JJ(a:Zu):Qq (Gk a.getMsbD) (λr=>r=iv a):=by
 unfold Gk
 refine Qq.fn ?_
 unfold Qyp
 have hlt:=a.isLt
 refine Ok.o rfl (Ok.b (R:=λe=>e=iv a) ?_ λe he=>Ok.d he)
 refine Ok.s 32 (by decide) (λk y=>y=(((a.toNat / 2 ^ (32 - k):Nat):Int),(k:Int))) (by
  grind) (λk y hy hk=>?_) λy hy=>?_
 ·subst hy
  have hb:=lC a hk
  have hd:a.toNat / 2 ^ (31 - k) / 2=a.toNat / 2 ^ (32 - k):=by rw[Nat.div_div_eq_div_mul,show 32 - k=31 - k+1 by omega,Nat.pow_succ]
  have hs:a.toNat / 2 ^ (31 - k)<=a.toNat:=Nat.div_le_self _ _
  rw[show 32 - (k+1)=31 - k by omega]
  generalize a.toNat / 2 ^ (31 - k)=q at hb hd hs ⊢
  rw[<-hd]
  refine Ok.t (by simp;omega) (Ok.o (r:=()) (Yc (by simp) (by grind)) (Ok.r rfl (Kj (n:=k) (by simp) hk) ?_))
  refine Ok.e (λh=>Ok.d ?_) λh=>Ok.d ?_
  ·show (_,_)=_
   rw[hb,zA] at h
   grind [Z9,Z4]
  grind [decide_eq_false_iff_not,Z9,Z4]
 ·subst hy
  refine Ok.f rfl (Ok.d ?_)
  simp_all [Nat.pow_zero,Nat.div_one,iv]
theorem YK(a:Zu):Qq (Iz (iv a)) (λr=>r=a.getMsbD):=by
 unfold Iz
 refine Qq.fn ?_
 unfold Qys
 have hlt:=a.isLt
 refine Ok.o rfl (Ok.o rfl (Ok.b (R:=λe=>e=a.getMsbD) ?_ λe he=>Ok.o rfl (Ok.o rfl (Ok.d he))))
 refine Ok.s 32 (by decide) (λk y=>y=(λj=>(decide (32 - k<=j)&&decide (j < 32))&&a.getMsbD j,((a.toNat / 2 ^ k:Nat):Int),(31:Int) - (k:Int))) (by
  show (_,_,_)=_
  rw[Nat.pow_zero,Nat.div_one]
  congr 1;grind) (λk y hy hk=>?_) λy hy=>?_
 ·subst hy
  have hb:=lC a (k:=31 - k) (by omega)
  rw[show 31 - (31 - k)=k by omega] at hb
  have hd:a.toNat / 2 ^ k / 2=a.toNat / 2 ^ (k+1):=by rw[Nat.div_div_eq_div_mul,Nat.pow_succ]
  have hs:a.toNat / 2 ^ k<=a.toNat:=Nat.div_le_self _ _
  rw[<-hd]
  generalize a.toNat / 2 ^ k=q at hb hd hs ⊢
  have e1:(31:Int) - (k:Int)=((31 - k:Nat):Int):=by omega
  refine Ok.t (by grind) (Ok.o (r:=()) (Yc (by grind) (by grind)) (Ok.r rfl (Kj (n:=31 - k) (by grind) (by omega)) (Ok.re (Ok.d ?_))))
  show (FA _ _ (Int.tmod (q:Int) 2==1),Q0 (Int.tdiv (q:Int) 2),Q0 ((31:Int) - (k:Int) - 1))=_
  rw[Int.tdiv_eq_ediv_of_nonneg (by omega),Z4 (n:=(q:Int) / 2) (by omega) (by omega),Z4 (by omega) (by omega),Int.tmod_eq_emod_of_nonneg (by omega)]
  congr 1
  ·funext j
   simp only[e1,zJ,zQ,FA]
   grind
  grind
 ·subst hy
  refine Ok.f rfl (Ok.d ?_)
  grind
theorem Hs(a b c:Zu):Qq (RU a.getMsbD b.getMsbD c.getMsbD) (λr=>r=(a ^^^ b ^^^ c).getMsbD):=by
 unfold RU
 refine Qq.fn ?_
 unfold Qyr
 refine Ok.o rfl (Ok.o rfl (Ok.o rfl (Ok.o rfl (Ok.o rfl (Ok.o rfl (Ok.c (Pu a b) λr hr=>?_))))))
 subst hr
 refine Ok.o rfl (Ok.c (Pu _ c) λr hr=>?_)
 subst hr
 exact Ok.o rfl (Ok.d rfl)
theorem xD(a b c d e:Int)(ha:0<=a/\a < 4294967296)(hb:0<=b/\b < 4294967296)(hc:0<=c/\c < 4294967296)(hd:0<=d/\d < 4294967296)(he:0<=e/\e < 4294967296):Qq (Dl a b c d e) (λr=>r=(a+b+c+d+e) % 4294967296):=by
 refine⟨_,rfl,?_⟩
 grind [Z4,Int.tmod_eq_emod_of_nonneg]
theorem Ta{s:za}{k:Nat}(h:k < s.size):(Q4 s)[k]?=some (QQ s (k:Int)):=by
 simp_all [zW,zJ,Array.getElem?_toList,wd,wn,Q4,QQ]
theorem DL(s:za)(h:s.size<=7):Qq (Cw s) (λr=>r=num (Q4 s)):=by
 have hl:=U1 s
 have hb:∀c,c∈Q4 s->0<=c/\c < 256:=λc hc=>Wo hc
 unfold Cw
 refine Qq.fn ?_
 unfold Qun
 refine Ok.b (R:=λe=>e=num (Q4 s)) ?_ λe he=>Ok.d he
 refine Ok.s s.size (by omega) (λk y=>k<=s.size/\y=(num ((Q4 s).take k),(k:Int))) ⟨Nat.zero_le _,rfl⟩ (λk y hy hk=>?_) λy hy=>?_
 ·obtain⟨_,rfl⟩:=hy
  refine Ok.t (by simp;omega) (Ok.k (by simp;omega) (Ok.d ?_))
  obtain⟨x,hx,hx'⟩:=E4 (l:=Q4 s) (k:=k) (by omega)
  have hbt:QQ s (k:Int)=x:=by
   grind [Ta,Option.some.inj]
  have h1:=SR (n:=k) hb (by omega)
  have h2:=hb x (zP hx')
  grind [GD,Z9,Z4,Q0,num,Q4,QQ]
 ·obtain⟨_,rfl⟩:=hy
  grind [Ok.f,Ok.d,List.take_length,num,Q4]
theorem eQ(a b c d e:Zu):(iv a+iv b+iv c+iv d+iv e) % 4294967296=iv (a+b+c+d+e):=by
 grind [iv]
theorem sO(a b c d e:Zu):Qq (Dl (iv a) (iv b) (iv c) (iv d) (iv e)) (λr=>r=iv (a+b+c+d+e)):=
 (xD _ _ _ _ _ (T9 a) (T9 b) (T9 c) (T9 d) (T9 e)).mono λr h=>by rw[h,eQ]
theorem Hb(a b:Zu):Qq (Dl (iv a) (iv b) 0 0 0) (λr=>r=iv (a+b)):=
 (show Qq (Dl (iv a) (iv b) 0 0 0) (λr=>r=iv (a+b+0+0+0)) from sO a b 0 0 0).mono λr h=>by rw[h];simp
theorem Qzd(a b c d:Zu):Qq (Dl (iv a) (iv b) (iv c) (iv d) 0) (λr=>r=iv (a+b+c+d)):=
 (show Qq (Dl (iv a) (iv b) (iv c) (iv d) 0) (λr=>r=iv (a+b+c+d+0)) from sO a b c d 0).mono λr h=>by rw[h];simp
theorem ix{n:Int}{k m:Nat}(h:n=(k:Int))(hk:k < m):(decide (0<=n)&&decide (n < (m:Int)))=true:=by grind
theorem RJ(b:Nat->Zu)(k:Nat):K5 b (k+1)=K5 b k++[if k < 16 then b k else nxt (K5 b k) k]:=rfl
theorem RY(b:Nat->Zu):K5 b 0=[]:=rfl
attribute [local irreducible] K5
theorem qN(t:Y9)(ht:t.fK=J1)(v:V8)(s:za)(hs:s.size=64):Qq (rH t (l8 v) s) (λr=>r=l8 (iP KB (bw s) v)):=by
 unfold rH
 refine Qq.fn ?_
 unfold Qjj
 refine Ok.g (Ok.b (R:=λe=>e=(K5 (bw s) 64).map iv) ?_ λe he=>?_)
 ·refine Ok.s 64 (by decide) (λk y=>y=((K5 (bw s) k).map iv,(k:Int))) (by rw[RY];rfl) (λk y hy hk=>?_) λy hy=>?_
  ·subst hy
   have hlen:((K5 (bw s) k).map iv).length=k:=by rw[wh,Wu]
   have fin:∀w:Zu,w=(if k < 16 then bw s k else nxt (K5 (bw s) k) k)->(((K5 (bw s) k).map iv)++[iv w],Q0 ((k:Int)+1))=((K5 (bw s) (k+1)).map iv,((k+1:Nat):Int)):=λw hw=>by
    rw[Z9 hk (by decide),RJ,<-hw,wE];rfl
   have sz:∀x:Int,(((K5 (bw s) k).map iv).length+[x].length) * 8<=140737488355328:=(by grind)
   refine Ok.t (by simp;omega) (Ok.e (λhc=>?_) λhc=>?_)
   ·have hc:(k:Int) < 16:=by simpa using hc
    have e1:Q0 ((4:Int) * (k:Int))=((4 * k:Nat):Int):=by grind [Z4]
    have e2:Q0 (((4 * k:Nat):Int)+4)=((4 * k+4:Nat):Int):=by grind [Z4]
    have ez:(s.extract (4 * k) (4 * k+4)).size=4:=by rw[ByteArray.size_extract];omega
    simp only[e1,e2,zJ]
    refine Ok.k (by simp;omega) (Ok.c (DL _ (by omega)) λr hr=>?_)
    have hr':r=iv (bw s k):=by
     rw[hr,bw,ivN]
     have:=yA (l:=Q4 (s.extract (4 * k) (4 * k+4))) λc hc=>Wo hc
     rw[U1,ez] at this
     omega
    subst hr'
    exact Ok.app (sz _) (Ok.g (Ok.g (Ok.d (by grind))))
   ·have hc:16<=(k:Int):=by simpa using hc
    have e15:Q0 ((k:Int) - 15)=((k - 15:Nat):Int):=by grind [Z4]
    have e2:Q0 ((k:Int) - 2)=((k - 2:Nat):Int):=by grind [Z4]
    have e16:Q0 ((k:Int) - 16)=((k - 16:Nat):Int):=by grind [Z4]
    have e7:Q0 ((k:Int) - 7)=((k - 7:Nat):Int):=by grind [Z4]
    have look:∀n:Nat,n < k->((K5 (bw s) k).map iv)[0+(n:Int).toNat]?=some (iv (Sa (K5 (bw s) k) n)):=λn hn=>by
     simp_all [zJ,zQ,zW,wc,Wu,Sa]
    simp only[e15,e2,e16,e7]
    refine Ok.k (ix rfl (by omega)) (Ok.r rfl (look (k - 15) (by omega)) (Ok.c (YK _) λr1 q1=>?_))
    subst q1
    refine Ok.k (ix rfl (by omega)) (Ok.r rfl (look (k - 2) (by omega)) (Ok.c (YK _) λr2 q2=>?_))
    subst q2
    refine Ok.o rfl (Ok.o rfl (Ok.o rfl (Ok.o rfl (Ok.k (ix rfl (by omega)) (Ok.r rfl (look (k - 16) (by omega)) (Ok.k (ix rfl (by omega)) (Ok.r rfl (look (k - 7) (by omega)) ?_)))))))
    refine Ok.o rfl (Ok.c (L1 _ 7 (by decide)) λr3 q3=>?_);subst q3
    refine Ok.o rfl (Ok.c (L1 _ 18 (by decide)) λr4 q4=>?_);subst q4
    refine Ok.o rfl (Ok.c (Gs _ 3 (by decide)) λr5 q5=>?_);subst q5
    refine Ok.c (Hs _ _ _) λr6 q6=>?_;subst q6
    refine Ok.c (JJ _) λr7 q7=>?_;subst q7
    refine Ok.o rfl (Ok.c (L1 _ 17 (by decide)) λr3 q3=>?_);subst q3
    refine Ok.o rfl (Ok.c (L1 _ 19 (by decide)) λr4 q4=>?_);subst q4
    refine Ok.o rfl (Ok.c (Gs _ 10 (by decide)) λr5 q5=>?_);subst q5
    refine Ok.c (Hs _ _ _) λr6 q6=>?_;subst q6
    refine Ok.c (JJ _) λr8 q8=>?_;subst q8
    refine Ok.c (Qzd _ _ _ _) λr9 q9=>?_;subst q9
    exact Ok.app (sz _) (Ok.g (Ok.g (Ok.d (fin _ (by rw[if_neg (by omega)];rfl)))))
  ·subst hy
   exact Ok.f rfl (Ok.d rfl)
 ·subst he
  unfold iP
  have hlen:((K5 (bw s) 64).map iv).length=64:=by rw[wh,Wu]
  generalize K5 (bw s) 64=W at hlen ⊢
  refine Ok.app (show (0+8) * 8<=140737488355328 by decide) (Ok.g (Ok.b (R:=λe=>e=l8 (Fb KB W v 64)) ?_ λe he=>?_))
  ·refine Ok.s 64 (by decide) (λk y=>y=(l8 (Fb KB W v k),(k:Int))) rfl (λk y hy hk=>?_) λy hy=>?_
   ·subst hy
    rw[Fb]
    generalize Fb KB W v k=u
    have hW:W.length=64:=by grind
    have lookW:(W.map iv)[0+(k:Int).toNat]?=some (iv (Sa W k)):=by
     simp_all [zJ,zQ,zW,wc,Sa]
    have lookK:t.fK[(k:Int).toNat]?=some (iv (Sa KB k)):=by
     grind [Int.toNat_natCast,HO,List.getElem?_eq_getElem,Bk,gY,J1]
    refine Ok.t (by simp;omega) ?_
    refine Ok.k rfl (Ok.r rfl (x:=iv u.a) rfl (Ok.c (YK _) λr q=>?_));subst q
    refine Ok.k rfl (Ok.r rfl (x:=iv u.b) rfl (Ok.c (YK _) λr q=>?_));subst q
    refine Ok.k rfl (Ok.r rfl (x:=iv u.c) rfl (Ok.c (YK _) λr q=>?_));subst q
    refine Ok.o rfl (Ok.o rfl (Ok.o rfl (Ok.o rfl (Ok.o rfl (Ok.o rfl ?_)))))
    refine Ok.k rfl (Ok.r rfl (x:=iv u.e) rfl (Ok.c (YK _) λr q=>?_));subst q
    refine Ok.k rfl (Ok.r rfl (x:=iv u.f) rfl (Ok.c (YK _) λr q=>?_));subst q
    refine Ok.k rfl (Ok.r rfl (x:=iv u.g) rfl (Ok.c (YK _) λr q=>?_));subst q
    refine Ok.o rfl (Ok.o rfl (Ok.o rfl (Ok.o rfl (Ok.o rfl (Ok.o rfl ?_)))))
    refine Ok.k rfl (Ok.r rfl (x:=iv u.h) rfl ?_)
    refine Ok.o rfl (Ok.c (L1 u.e 6 (by decide)) λr q=>?_);subst q
    refine Ok.o rfl (Ok.c (L1 u.e 11 (by decide)) λr q=>?_);subst q
    refine Ok.o rfl (Ok.c (L1 u.e 25 (by decide)) λr q=>?_);subst q
    refine Ok.c (Hs _ _ _) λr q=>?_;subst q
    refine Ok.c (JJ _) λr q=>?_;subst q
    refine Ok.o rfl (Ok.o rfl (Ok.c (XL u.e u.f) λr q=>?_));subst q
    refine Ok.o rfl (Ok.c (sN u.e) λr q=>?_);subst q
    refine Ok.o rfl (Ok.c (XL _ u.g) λr q=>?_);subst q
    refine Ok.c (Pu _ _) λr q=>?_;subst q
    refine Ok.c (JJ _) λr q=>?_;subst q
    refine Ok.r (by simp) lookK (Ok.k (by grind) (Ok.r rfl lookW ?_))
    refine Ok.c (sO _ _ _ _ _) λr q=>?_;subst q
    refine Ok.o rfl (Ok.c (L1 u.a 2 (by decide)) λr q=>?_);subst q
    refine Ok.o rfl (Ok.c (L1 u.a 13 (by decide)) λr q=>?_);subst q
    refine Ok.o rfl (Ok.c (L1 u.a 22 (by decide)) λr q=>?_);subst q
    refine Ok.c (Hs _ _ _) λr q=>?_;subst q
    refine Ok.c (JJ _) λr q=>?_;subst q
    refine Ok.o rfl (Ok.o rfl (Ok.c (XL u.a u.b) λr q=>?_));subst q
    refine Ok.o rfl (Ok.o rfl (Ok.c (XL u.a u.c) λr q=>?_));subst q
    refine Ok.o rfl (Ok.o rfl (Ok.c (XL u.b u.c) λr q=>?_));subst q
    refine Ok.c (Hs _ _ _) λr q=>?_;subst q
    refine Ok.c (JJ _) λr q=>?_;subst q
    refine Ok.c (Hb _ _) λr q=>?_;subst q
    refine Ok.c (Hb _ _) λr q=>?_;subst q
    refine Ok.k rfl (Ok.r rfl (x:=iv u.a) rfl (Ok.k rfl (Ok.r rfl (x:=iv u.b) rfl (Ok.k rfl (Ok.r rfl (x:=iv u.c) rfl (Ok.k rfl (Ok.r rfl (x:=iv u.d) rfl (Ok.c (Hb _ _) λr q=>?_))))))))
    subst q
    refine Ok.k rfl (Ok.r rfl (x:=iv u.e) rfl (Ok.k rfl (Ok.r rfl (x:=iv u.f) rfl (Ok.k rfl (Ok.r rfl (x:=iv u.g) rfl (Ok.g (Ok.g (Ok.d ?_))))))))
    show (_,_)=_
    rw[Z9 hk (by decide)]
    rfl
   ·subst hy
    exact Ok.f rfl (Ok.d rfl)
  ·subst he
   generalize Fb KB W v 64=u
   refine Ok.g (Ok.b (R:=λe=>e=l8 (v.add u)) ?_ λe he=>Ok.g (Ok.d he))
   refine Ok.s 8 (by decide) (λk y=>y=((l8 (v.add u)).take k,(k:Int))) rfl (λk y hy hk=>?_) λy hy=>?_
   ·subst hy
    have:k=0\/k=1\/k=2\/k=3\/k=4\/k=5\/k=6\/k=7:=by omega
    rcases this with rfl|rfl|rfl|rfl|rfl|rfl|rfl|rfl
    ·exact Ok.t rfl (Ok.r rfl (x:=iv v.a) rfl (Ok.k rfl (Ok.r rfl (x:=iv u.a) rfl (Ok.c (Hb _ _) λr q=>Ok.app (by grind) (Ok.g (Ok.g (Ok.d (by subst q;rfl))))))))
    ·exact Ok.t rfl (Ok.r rfl (x:=iv v.b) rfl (Ok.k rfl (Ok.r rfl (x:=iv u.b) rfl (Ok.c (Hb _ _) λr q=>Ok.app (by grind) (Ok.g (Ok.g (Ok.d (by subst q;rfl))))))))
    ·exact Ok.t rfl (Ok.r rfl (x:=iv v.c) rfl (Ok.k rfl (Ok.r rfl (x:=iv u.c) rfl (Ok.c (Hb _ _) λr q=>Ok.app (by grind) (Ok.g (Ok.g (Ok.d (by subst q;rfl))))))))
    ·exact Ok.t rfl (Ok.r rfl (x:=iv v.d) rfl (Ok.k rfl (Ok.r rfl (x:=iv u.d) rfl (Ok.c (Hb _ _) λr q=>Ok.app (by grind) (Ok.g (Ok.g (Ok.d (by subst q;rfl))))))))
    ·exact Ok.t rfl (Ok.r rfl (x:=iv v.e) rfl (Ok.k rfl (Ok.r rfl (x:=iv u.e) rfl (Ok.c (Hb _ _) λr q=>Ok.app (by grind) (Ok.g (Ok.g (Ok.d (by subst q;rfl))))))))
    ·exact Ok.t rfl (Ok.r rfl (x:=iv v.f) rfl (Ok.k rfl (Ok.r rfl (x:=iv u.f) rfl (Ok.c (Hb _ _) λr q=>Ok.app (by grind) (Ok.g (Ok.g (Ok.d (by subst q;rfl))))))))
    ·exact Ok.t rfl (Ok.r rfl (x:=iv v.g) rfl (Ok.k rfl (Ok.r rfl (x:=iv u.g) rfl (Ok.c (Hb _ _) λr q=>Ok.app (by grind) (Ok.g (Ok.g (Ok.d (by subst q;rfl))))))))
    ·exact Ok.t rfl (Ok.r rfl (x:=iv v.h) rfl (Ok.k rfl (Ok.r rfl (x:=iv u.h) rfl (Ok.c (Hb _ _) λr q=>Ok.app (by grind) (Ok.g (Ok.g (Ok.d (by subst q;rfl))))))))
   ·subst hy
    exact Ok.f rfl (Ok.d rfl)
def WZ(t:Y9):Prop:=t.gi=l8 vS/\t.fK=J1
theorem xL(t:Y9)(ht:WZ t)(s:za)(hs:s.size<=1000000)(h6:s.size % 64=0)(v:V8):Qq (pJ t (l8 v) s) (λr=>r=l8 (X2 s v)):=by
 unfold pJ
 refine Qq.fn ?_
 unfold Qu9
 refine Ok.b (R:=λe=>e=l8 (X2 s v)) ?_ λe he=>Ok.d he
 refine Ok.s (s.size / 64) (by omega) (λk y=>y=(l8 (UF s v k),((64 * k:Nat):Int))) rfl (λk y hy hk=>?_) λy hy=>?_
 ·subst hy
  have e1:Q0 (((64 * k:Nat):Int)+64)=((64 * k+64:Nat):Int):=by grind [Z4]
  simp only[e1,zJ]
  have ez:(s.extract (64 * k) (64 * k+64)).size=64:=by rw[ByteArray.size_extract];omega
  exact Ok.t (by simp;omega) (Ok.k (by simp;omega) (Ok.c (qN t ht.2 _ _ ez) λr hr=>Ok.d (by rw[hr];rfl)))
 grind [Ok.f,Z4,Ok.d,l8,UF,X2]
theorem VB(n:Nat)(x:Int):List.replicate n x++[x]=List.replicate (n+1) x:=by
 rw[List.replicate_succ']
theorem sL(k:Nat)(n:Int)(h0:0<=n)(h:n < 9223372036854775808)(hk:k<=100):Qq (mW (k:Int) n) (λr=>r=strOfNums (Yb k n)):=by
 unfold mW
 refine Qq.fn ?_
 unfold g83
 refine Ok.b (R:=λe=>e=strOfNums (Yb k n)) ?_ λe he=>Ok.d he
 refine Ok.s k (by omega) (λi y=>∃m l,y=(m,strOfNums l,(i:Int))/\0<=m/\m < 9223372036854775808/\l.length=i/\Yb k n=Yb (k - i) m++l) ⟨n,[],rfl,h0,h,rfl,by simp⟩ (λi y hy hi=>?_) λy hy=>?_
 ·obtain⟨m,l,rfl,h1,h2,hl,hb⟩:=hy
  have em:Int.tmod m 256=m % 256:=(by grind)
  have ed:Int.tdiv m 256=m / 256:=(by grind)
  refine Ok.t (by simp;omega) (Ok.k ?_ (Ok.d ⟨m / 256,m % 256 :: l,?_,by omega,by omega,by simp[hl],?_⟩))
  ·simp only[strOfNums_size,zA]
   grind
  ·show (Q0 (Int.tdiv m 256),strOfNums [Qk (Int.tmod m 256)]++strOfNums l,Q0 ((i:Int)+1))=_
   rw[ed,em,Z4 (by omega) (by omega),Z9 hi (by omega),L3,<-P6,show m % 256 % 256=m % 256 by omega]
   rfl
  ·rw[hb,show k - i=(k - (i+1))+1 by omega,Yb]
   simp
 ·obtain⟨m,l,rfl,h1,h2,hl,hb⟩:=hy
  refine Ok.f (by simp) (Ok.d ?_)
  rw[hb,Nat.sub_self]
  rfl
theorem Ph(s:za)(n:Nat)(hs:s.size=n % 64)(hn:n<=1000000):Qq (pY s (n:Int)) (λr=>r=s++pad n):=by
 unfold pY
 refine Qq.fn ?_
 unfold Qu8
 have z1:(bs [128]).size=1:=rfl
 have z0:(bs [0]).size=1:=rfl
 have zr:∀j:Nat,((s++bs [128])++strOfNums (List.replicate j 0)).size=n % 64+1+j:=(by grind [ByteArray.size_append,strOfNums_size,List.length_replicate])
 refine Ok.k (by grind) (Ok.b (R:=λe=>e=(s++bs [128])++strOfNums (List.replicate ((119 - n % 64) % 64) 0)) ?_ λe he=>?_)
 ·refine Ok.s ((119 - n % 64) % 64) (by omega) (λk y=>y=(s++bs [128])++strOfNums (List.replicate k 0)) (ByteArray.append_empty).symm (λk y hy hk=>?_) λy hy=>?_
  ·grind [Int.tmod_eq_emod_of_nonneg,Ok.t,Ok.k,Ok.d,ByteArray.append_assoc,P6,VB,Int.tmod,bs,strOfNums,List.replicate]
  ·subst hy
   have em:Int.tmod (((s++bs [128])++strOfNums (List.replicate ((119 - n % 64) % 64) 0)).size:Int) 64=56:=by grind
   exact Ok.f (by rw[em];rfl) (Ok.d rfl)
 ·subst he
  have e8:Q0 ((8:Int) * (n:Int))=8 * (n:Int):=Z4 (by omega) (by omega)
  refine Ok.b (R:=λe=>e=((s++bs [128])++strOfNums (List.replicate ((119 - n % 64) % 64) 0),strOfNums (Yb 8 (8 * (n:Int))))) ?_ λe he=>?_
  ·refine Ok.s 8 (by decide) (λi y=>∃m l,y=(m,strOfNums l,(i:Int))/\0<=m/\m < 9223372036854775808/\l.length=i/\Yb 8 (8 * (n:Int))=Yb (8 - i) m++l) ⟨8 * (n:Int),[],by rw[e8];rfl,by omega,by omega,rfl,by simp⟩ (λi y hy hi=>?_) λy hy=>?_
   ·obtain⟨m,l,rfl,h1,h2,hl,hb⟩:=hy
    have em:Int.tmod m 256=m % 256:=(by grind)
    have ed:Int.tdiv m 256=m / 256:=(by grind)
    refine Ok.t (by simp;omega) (Ok.k ?_ (Ok.d ⟨m / 256,m % 256 :: l,?_,by omega,by omega,by simp[hl],?_⟩))
    ·simp only[strOfNums_size,zA]
     grind
    ·show (Q0 (Int.tdiv m 256),strOfNums [Qk (Int.tmod m 256)]++strOfNums l,Q0 ((i:Int)+1))=_
     rw[ed,em,Z4 (by omega) (by omega),Z9 hi (by omega),L3,<-P6,show m % 256 % 256=m % 256 by omega]
     rfl
    ·rw[hb,show 8 - i=(8 - (i+1))+1 by omega,Yb]
     simp
   ·obtain⟨m,l,rfl,h1,h2,hl,hb⟩:=hy
    refine Ok.f (by simp) (Ok.d ?_)
    rw[hb,Nat.sub_self]
    rfl
  grind [Ok.k,strOfNums_size,Uc,Ok.d,ByteArray.append_assoc,pad]
theorem cU(v:V8){k:Nat}{x:Int}(h:(l8 v)[k]?=some x):0<=x/\x < 4294967296:=by
 have:=zP h
 simp only[l8,zN,zR,or_false] at this
 rcases this with rfl|rfl|rfl|rfl|rfl|rfl|rfl|rfl<;>exact T9 _
theorem Cn(v:V8):Qq (pU (l8 v)) (λr=>r=Cl v):=by
 unfold pU
 refine Qq.fn ?_
 unfold Quq Cl
 have hl:(l8 v).length=8:=rfl
 have hx:=@cU v
 generalize l8 v=L at hl hx ⊢
 refine Ok.b (R:=λe=>e=strOfNums (L.flatMap (Yb 4))) ?_ λe he=>Ok.d he
 refine Ok.s 8 (by decide) (λk y=>y=(strOfNums ((L.take k).flatMap (Yb 4)),(k:Int))) rfl (λk y hy hk=>?_) λy hy=>?_
 ·subst hy
  obtain⟨x,h1,h2⟩:=E4 (l:=L) (k:=k) (by omega)
  have hr:=hx h2
  have zk:((L.take k).flatMap (Yb 4)).length=4 * k:=by
   rw[List.length_flatMap]
   simp only[Uc,List.map_const',List.sum_replicate_nat,wK,hl]
   omega
  refine Ok.t (by grind [YI]) (Ok.r (by simp) h1 (Ok.c (show Qq _ _ from sL 4 x hr.1 (by omega) (by decide)) λr hr=>?_))
  grind [Ok.k,strOfNums_size,Uc,Ok.d,Z9,P6,List.take_add_one,Q0]
 grind [Ok.f,YI,Ok.d,List.take_of_length_le,strOfNums]
theorem Ld(t:Y9)(ht:WZ t)(s:za)(hs:s.size<=500000):Qq (nH t s) (λr=>r=Ip s vS):=by
 unfold nH
 refine Qq.fn ?_
 unfold g82
 have e1:Int.tdiv (s.size:Int) 64=((s.size / 64:Nat):Int):=by grind
 have e2:Q0 ((Q0 (Int.tdiv (s.size:Int) 64)) * 64)=((64 * (s.size / 64):Nat):Int):=by
  grind [Z4]
 simp only[e2,zJ]
 have hz:(s.extract (64 * (s.size / 64)) s.size).size=s.size % 64:=by rw[ByteArray.size_extract];omega
 have h0:(s.extract 0 (64 * (s.size / 64))).size=64 * (s.size / 64):=by rw[ByteArray.size_extract];omega
 have hm:s.extract 0 (64 * (s.size / 64))++(s.extract (64 * (s.size / 64)) s.size++pad s.size)=s++pad s.size:=by
  rw[<-ByteArray.append_assoc,ByteArray.extract_append_extract,Nat.min_eq_left (by omega),Nat.max_eq_right (by omega),ByteArray.extract_zero_size]
 have hp:=Gf s.size
 have hT:(s++pad s.size).size % 64=0:=by grind
 have hT2:(s++pad s.size).size<=1000000:=by grind
 refine Ok.k (by simp;omega) (Ok.k (by simp;omega) (Ok.c (Ph _ s.size hz (by omega)) λr hr=>?_))
 subst hr
 refine Ok.k (by grind) ?_
 rw[hm,ht.1]
 exact Ok.c (xL t ht _ hT2 hT vS) λr hr=>by subst hr;exact Ok.c (Cn _) λr hr=>Ok.d hr
theorem XO(s:za)(c:Int)(hc:Qk c=c)(hs:s.size<=64):Qq (eF s c) (λr=>r=xk c s):=by
 unfold eF
 refine Qq.fn ?_
 unfold Qyk xk
 have hL:=LD s hs
 generalize F8 (List.replicate 64 (0:Int)) 0 (Q4 s)=L at hL ⊢
 refine Ok.o rfl (Ok.o (r:=()) ?_ (Ok.b (R:=λe=>e=L.map λx=>F4 .u8 x c) ?_ λe he=>Ok.fact (by grind) (Ok.o rfl (Ok.d (by rw[he])))))
 ·show (bif decide (s.size<=64)&&decide (0 < 64) then some () else none)=some ()
  grind
 ·refine Ok.s 64 (by decide) (λk y=>y=((L.take k).map (λx=>F4 .u8 x c)++L.drop k,(k:Int))) rfl (λk y hy hk=>?_) λy hy=>?_
  ·subst hy
   obtain⟨x,hx,hx'⟩:=E4 (l:=L) (k:=k) (by omega)
   have hg:=By (f:=λx=>F4 .u8 x c) hx'
   refine Ok.t (by simp;omega) (Ok.k (by simp;omega) (Ok.r rfl hg (Ok.k (by simp;omega) (Ok.r rfl hg (Ok.re (Ok.d ?_))))))
   grind [Z9,map_set,List.set,Q0,F4]
  ·subst hy
   refine Ok.f rfl (Ok.d ?_)
   grind
theorem Lx(t:Y9)(ht:WZ t)(key s:za)(hk:key.size<=100000)(hs:s.size<=100000):Qq (BC t key s) (λr=>r=N2 key s):=by
 unfold BC
 refine Qq.fn ?_
 unfold Qyb N2 Ax
 have hz:=Af key vS
 refine Ok.b (R:=λx=>x=B6 key vS) ?_ λx he=>?_
 ·refine Ok.e (λhc=>Ok.c (Ld t ht key (by omega)) λr hr=>Ok.d ?_) λhc=>Ok.d ?_
  ·have hc:(64:Int) < (key.size:Int):=by simpa using hc
   rw[hr,B6,if_pos (by omega)]
  ·have hc:¬(64:Int) < (key.size:Int):=by simpa using hc
   rw[B6,if_neg (by omega)]
 ·subst he
  have z1:=DM 92 (B6 key vS) hz
  have z2:=DM 54 (B6 key vS) hz
  have z3:=T0 (xk 54 (B6 key vS)++s) vS
  refine Ok.c (XO _ 92 rfl hz) λr h1=>Ok.c (XO _ 54 rfl hz) λr2 h2=>?_
  grind [Ok.k,Ok.c,Ld,ByteArray.size_append,Ok.d]
theorem Kb(c:Int):Qq (VH c) (λr=>r=WW c):=by
 unfold VH
 refine Qq.fn ?_
 unfold Qjx
 refine Ok.n (R:=λr=>r=WW c) ?_ λr hr=>Ok.d hr
 unfold WW
 repeat' grind [Ok.e,Ok.d]
 all_goals grind
theorem aD(c:Int):(!WW c&&((c != 46)&&(c != 45)))=!B3 c:=by
 grind [B3,KA,WW,bne]
theorem XR(b:Z6):Qq (dD b) (λr=>r=O2 b):=by
 unfold dD
 refine Qq.fn ?_
 unfold Qug
 refine Ok.n (R:=λc=>(c=true->R0 b.fy=false)/\(c=false->1<=b.fy.size/\b.fy.size<=32/\(WW (QQ b.fy 0)&&WW (QQ b.fy ((b.fy.size - 1:Nat):Int)))=true)) ?_ λc hc=>?_
 ·refine Ok.e (λh=>Ok.d ⟨λ_=>?_,λh=>(by cases h)⟩) λh=>Ok.e (λh2=>Ok.d ⟨λ_=>?_,λh=>(by cases h)⟩) λh2=>?_
  ·grind [decide_eq_false,R0]
  ·grind [decide_eq_false,R0]
  ·have h0:1<=b.fy.size:=by grind
   have h1:b.fy.size<=32:=by grind
   have e1:Q0 ((b.fy.size:Int) - 1)=((b.fy.size - 1:Nat):Int):=by grind [Z4]
   refine Ok.k (by simp;omega) (Ok.c (Kb _) λr hr=>?_)
   subst hr
   refine Ok.e (λh3=>Ok.d ⟨λ_=>?_,λh=>(by cases h)⟩) λh3=>?_
   ·grind [R0,WW,QQ]
   ·have h3:WW (QQ b.fy 0)=true:=by simpa using h3
    rw[e1]
    grind [Ok.k,Ok.c,Kb,Ok.d,R0,WW,QQ]
 ·refine Ok.e (λh=>Ok.d ?_) λh=>?_
  ·grind [O2]
  ·obtain⟨h0,h1,h2⟩:=hc.2 h
   refine Ok.p (R:=Sum.elim (λ_=>(Q4 b.fy).all B3=false) (λ_=>(Q4 b.fy).all B3=true)) ?_ (λe he=>Ok.d ?_) λe he=>?_
   ·refine Ok.s b.fy.size (by omega) (λk y=>y=(k:Int)/\∀i,i < k->B3 (QQ b.fy (i:Int))=true) (by grind) (λk y hy hk=>?_) λy hy=>?_
    ·obtain⟨rfl,hI⟩:=hy
     refine Ok.t (by simp;omega) (Ok.n (R:=λc=>c=!B3 (QQ b.fy (k:Int))) ?_ λc hc=>?_)
     ·grind [Ok.k,Ok.c,Kb,aD,Ok.e,Ok.d]
     ·subst hc
      refine Ok.e (λh=>Ok.d ?_) λh=>Ok.d ?_
      ·grind [ML,Q4,B3]
      ·refine⟨Z9 hk (by omega),λi hi=>?_⟩
       grind
    ·obtain⟨rfl,hI⟩:=hy
     grind [Ok.f,Ok.d,ML,Q4,B3]
   ·grind [O2,R0,Q4,B3]
   ·have hn:R0 b.fy=true:=by
     grind [decide_eq_true,R0,Q4,B3]
    unfold O2
    rw[hn]
    refine Ok.n (R:=λc=>c=_) ?_ λc hc=>Ok.d hc
    simp only[Bool.true_and]
    repeat' first
     | refine Ok.e (λh=>?_) (λh=>?_)
     | refine Ok.d ?_
    all_goals grind
theorem hG(n:Nat)(v:Int):Yb (n+1) v=(v / 256 ^ n % 256) :: Yb n v:=by
 induction n generalizing v with
 | zero=>simp[Yb]
 | succ n ih=>
  grind [Int.ediv_ediv_of_nonneg,Int.pow_succ,Int.mul_comm,Yb]
theorem Me(n:Nat)(hn:n<=8)(v:Int)(h0:0<=v)(h:v < 9223372036854775808):Qq (mW (n:Int) v) (λr=>r=Zl n v):=by
 unfold mW
 refine Qq.fn ?_
 unfold g83
 refine Ok.b (R:=λe=>e=Zl n v) ?_ λe he=>Ok.d he
 refine Ok.s n (by omega) (λk y=>y=(v / 256 ^ k,Zl k v,(k:Int))) (by rw[Int.pow_zero,Int.ediv_one];rfl) (λk y hy hk=>?_) λy hy=>?_
 ·subst hy
  have hp:(0:Int) < 256 ^ k:=Int.pow_pos (by decide)
  have hv:0<=v / 256 ^ k:=Int.ediv_nonneg h0 (by omega)
  have hv2:v / 256 ^ k<=v:=Int.ediv_le_self _ h0
  have e1:Qk (Int.tmod (v / 256 ^ k) 256)=v / 256 ^ k % 256:=by rw[L3,Int.tmod_eq_emod_of_nonneg hv];omega
  have e2:Q0 (Int.tdiv (v / 256 ^ k) 256)=v / 256 ^ (k+1):=by
   grind [Int.tdiv_eq_ediv_of_nonneg,Int.pow_succ,Int.ediv_ediv_of_nonneg,Z4]
  refine Ok.t (by simp;omega) (Ok.k ?_ (Ok.d ?_))
  ·simp only[W3,S7,List.length_singleton,zA];omega
  ·show (_,_,_)=(_,_,_)
   rw[e1,e2,Z9 hk (by omega)]
   have:strOfNums [v / 256 ^ k % 256]++Zl k v=Zl (k+1) v:=by
    unfold Zl
    rw[hG,<-P6];rfl
   rw[this]
 ·subst hy
  exact Ok.f (by simp) (Ok.d rfl)
theorem XP(b:Z6)(hv:O2 b=true):Qq (BS b) (λr=>r=X4 b):=by
 obtain⟨h1,h2,h3,h4,h5,h6,h7⟩:=F6 hv
 obtain⟨z1,z2⟩:=N1 h1
 have hh:bs [102,100]++Zl 1 1=Ft:=by decide
 unfold BS
 refine Qq.fn ?_
 unfold g45
 refine Ok.c (Me 1 (by decide) 1 (by decide) (by decide)) λr0 e0=>Ok.k ?_ (Ok.c (Me 6 (by decide) b.fO h6 (by omega)) λr1 e1=>Ok.k ?_ (Ok.c (Me 6 (by decide) b.fG h3 (by omega)) λr2 e2=>Ok.k ?_ (Ok.c (Me 6 (by decide) b.fH (by omega) (by omega)) λr3 e3=>Ok.k ?_ (Ok.c (Me 1 (by decide) (b.fy.size:Int) (by omega) (by omega)) λr4 e4=>Ok.k ?_ (Ok.k ?_ (Ok.k ?_ (Ok.d ?_)))))))
 all_goals subst_vars
 all_goals try simp only[hh,ByteArray.size_append,S7,GC,zA,show (bs [102,100]).size=2 from rfl,h2]
 iterate 7
  ·omega
 ·rfl
theorem iB{l:List Int}(h:∀c,c∈l->0<=c/\c < 256):Yb l.length (num l)=l:=by
 have key:∀(n:Nat) (l:List Int),l.length=n->(∀c,c∈l->0<=c/\c < 256)->Yb n (num l)=l:=by
  intro n
  induction n with
  | zero=>intro l hl _;rw[wW.1 hl];rfl
  | succ n ih=>
   intro l hl hb
   have hne:l≠[]:=(by grind)
   have e:=List.dropLast_concat_getLast hne
   rw[<-e,Mf]
   have hc:=hb (l.getLast hne) (List.getLast_mem hne)
   rw[Yb,show (num l.dropLast * 256+l.getLast hne) / 256=num l.dropLast by omega,show (num l.dropLast * 256+l.getLast hne) % 256=l.getLast hne by omega,ih l.dropLast (by rw[List.length_dropLast];omega) λc hc=>hb c (List.dropLast_subset _ hc)]
 grind
theorem DV{s:za}{a n:Nat}(h:a+n<=s.size):Zl n (num (Q4 (s.extract a (a+n))))=s.extract a (a+n):=by
 have hl:(Q4 (s.extract a (a+n))).length=n:=by rw[D3,ByteArray.size_extract];omega
 have:=iB (l:=Q4 (s.extract a (a+n))) λc hc=>Wo hc
 grind [YD,Zl]
theorem iI{a b c:za}:(a++b++c).extract a.size (a.size+b.size)=b:=by
 rw[ByteArray.extract_append,ByteArray.extract_append]
 have e1:a.extract a.size (a.size+b.size)=zd:=by simp_all
 have e2:b.extract (a.size - a.size) (a.size+b.size - a.size)=b:=by
  simp_all
 grind [ByteArray.extract_eq_empty_iff,ByteArray.size_append,ByteArray.empty_append,ByteArray.append_empty,ByteArray.empty]
theorem uY{s:za}{a b c:Nat}(h1:a<=b)(h2:b<=c):s.extract a b++s.extract b c=s.extract a c:=by
 grind [ByteArray.ext,ByteArray.data_append,ByteArray.data_extract,Nat.min_eq_left,Nat.max_eq_right]
theorem uD{s:za}(h:okB s=true):X4 (Za s)=s:=by
 unfold okB at h
 simp only[zD,zA] at h
 obtain⟨h1,h2,h3,h4⟩:=h
 have hb:=I0 s 21
 have hn:(s.extract 22 (22+UA s)).size=UA s:=by simp_all
 have e1:Zl 1 ((s.extract 22 (22+UA s)).size:Int)=s.extract 21 22:=by
  rw[hn]
  have:=bX (s:=s) (a:=21) (by omega)
  rw[show ((UA s:Nat):Int)=QQ s 21 by unfold UA;omega,<-show num (Q4 (s.extract 21 22))=QQ s 21 from this]
  exact DV (s:=s) (a:=21) (n:=1) (by omega)
 have n1:Zl 6 (num (Q4 (s.extract 3 9)))=s.extract 3 9:=DV (a:=3) (n:=6) (by omega)
 have n2:Zl 6 (num (Q4 (s.extract 9 15)))=s.extract 9 15:=DV (a:=9) (n:=6) (by omega)
 have n3:Zl 6 (num (Q4 (s.extract 15 21)))=s.extract 15 21:=DV (a:=15) (n:=6) (by omega)
 show Ft++Zl 6 (num (Q4 (s.extract 3 9)))++Zl 6 (num (Q4 (s.extract 9 15)))++Zl 6 (num (Q4 (s.extract 15 21)))++Zl 1 ((s.extract 22 (22+UA s)).size:Int)++s.extract 22 (22+UA s)++s.extract (22+UA s) (54+UA s)=s
 grind [uY,ByteArray.extract_zero_size]
theorem yP{b:Z6}(hv:O2 b=true):okB (X4 b)=true/\Za (X4 b)=b:=by
 obtain⟨h1,h2,h3,h4,h5,h6,h7⟩:=F6 hv
 obtain⟨z1,z2⟩:=N1 h1
 have hz:=Ws hv
 have pick:∀(x y z:za) (a:Nat),a=x.size->(x++y++z).extract a (a+y.size)=y:=(by grind [iI])
 have g3:(X4 b).extract 0 3=Ft:=by
  have:X4 b=zd++Ft++(Zl 6 b.fO++Zl 6 b.fG++Zl 6 b.fH++Zl 1 (b.fy.size:Int)++b.fy++b.fJ):=by grind [ByteArray.append_assoc,ByteArray.empty_append,X4]
  rw[this];exact pick _ _ _ 0 rfl
 have gn:(X4 b).extract 3 9=Zl 6 b.fO:=by
  have:X4 b=Ft++Zl 6 b.fO++(Zl 6 b.fG++Zl 6 b.fH++Zl 1 (b.fy.size:Int)++b.fy++b.fJ):=by grind [ByteArray.append_assoc,X4]
  rw[this];have:=pick Ft (Zl 6 b.fO) (Zl 6 b.fG++Zl 6 b.fH++Zl 1 (b.fy.size:Int)++b.fy++b.fJ) 3 rfl;rwa [S7] at this
 have gf:(X4 b).extract 9 15=Zl 6 b.fG:=by
  grind [ByteArray.append_assoc,ByteArray.size_append,S7,X4,Ft,Zl]
 have gu:(X4 b).extract 15 21=Zl 6 b.fH:=by
  grind [ByteArray.append_assoc,ByteArray.size_append,S7,X4,Ft,Zl]
 have gl:(X4 b).extract 21 22=Zl 1 (b.fy.size:Int):=by
  grind [ByteArray.append_assoc,ByteArray.size_append,S7,X4,Ft,Zl]
 have hN:UA (X4 b)=b.fy.size:=by
  have h8:=bX (s:=X4 b) (a:=21) (by omega)
  rw[show (X4 b).extract 21 (21+1)=Zl 1 (b.fy.size:Int) from gl] at h8
  have h9:num (Q4 (Zl 1 (b.fy.size:Int)))=(b.fy.size:Int):=by
   unfold Zl
   rw[N9 (NJ 1 _)]
   grind [SP]
  rw[h9] at h8
  unfold UA
  grind
 have nb:∀v:Int,0<=v->v < 281474976710656->num (Q4 (Zl 6 v))=v:=λv h0 h=>by
  unfold Zl
  rw[N9 (NJ 6 _)]
  grind [SP]
 have gm:(X4 b).extract 22 (22+b.fy.size)=b.fy:=by
  have:X4 b=(Ft++Zl 6 b.fO++Zl 6 b.fG++Zl 6 b.fH++Zl 1 (b.fy.size:Int))++b.fy++b.fJ:=rfl
  grind
 have gk:(X4 b).extract (22+b.fy.size) (54+b.fy.size)=b.fJ:=by
  have:X4 b=(Ft++Zl 6 b.fO++Zl 6 b.fG++Zl 6 b.fH++Zl 1 (b.fy.size:Int)++b.fy)++b.fJ++zd:=by rw[ByteArray.append_empty];rfl
  rw[this]
  have:=pick (Ft++Zl 6 b.fO++Zl 6 b.fG++Zl 6 b.fH++Zl 1 (b.fy.size:Int)++b.fy) b.fJ zd (22+b.fy.size) (by simp only[ByteArray.size_append,S7];rfl)
  grind
 have e:Za (X4 b)=b:=by
  unfold Za
  rw[hN,gm,gk,gn,gf,gu,nb _ h6 (by omega),nb _ h3 (by omega),nb _ (by omega) (by omega)]
 refine⟨?_,e⟩
 unfold okB
 grind
theorem Md(s:za):Qq (s69 s) (λr=>r=YZ s):=by
 unfold s69
 refine Qq.fn ?_
 unfold g69
 have szs:okB s=true->55<=s.size/\s.size<=86:=λh=>by
  have e:=Ws (b:=Za s) (by simp_all [zD,okB])
  rw[uD h] at e
  obtain⟨z1,z2⟩:=N1 (F6 (b:=Za s) (by simp_all [zD,okB])).1
  omega
 have bad:okB s=false->YZ s=(zB,5):=(by grind [YZ])
 refine Ok.n (R:=λc=>c=decide (s.size < 55\/86 < s.size)) (Ok.e (λh=>Ok.d ?_) λh=>Ok.d ?_) λc hc=>?_
 ·grind
 ·grind
 subst hc
 refine Ok.e (λh=>Ok.d ?_) λh=>?_
 ·rw[zA] at h
  rw[bad ?_];rfl
  grind
 ·rw[decide_eq_false_iff_not] at h
  have e0:Q0 ((s.size:Int) - 32)=((s.size - 32:Nat):Int):=by grind [Z4]
  rw[e0]
  simp only[zJ]
  have hz:∀a b:Nat,a<=b->b<=a+7->(s.extract a b).size<=7:=(by grind [ByteArray.size_extract])
  refine Ok.k (by simp;omega) (Ok.c (DL _ (hz 3 9 (by omega) (by omega))) λr1 e1=>Ok.k (by simp;omega) (Ok.c (DL _ (hz 9 15 (by omega) (by omega))) λr2 e2=>Ok.k (by simp;omega) (Ok.c (DL _ (hz 15 21 (by omega) (by omega))) λr3 e3=>Ok.k (by simp;omega) (Ok.k (by simp) ?_))))
  subst e1 e2 e3
  generalize hb:Z6.mk (s.extract 22 (s.size - 32)) (s.extract (s.size - 32) s.size) (num (Q4 (s.extract 9 15))) (num (Q4 (s.extract 15 21))) (num (Q4 (s.extract 3 9)))=b
  have hm:s.size=54+UA s->Za s=b:=(by grind [Za,UA])
  have key:okB s=(O2 b&&decide (X4 b=s)):=by
   cases ho:okB s with
   | true=>
    have h1:=ho
    unfold okB at h1
    simp only[zD,zA] at h1
    grind [uD]
   | false=>
    symm
    cases hv:O2 b with
    | false=>rfl
    | true=>
     rw[Bool.true_and]
     grind [decide_eq_false,yP]
  refine Ok.n (R:=λc=>c=!okB s) ?_ λc hc=>?_
  ·grind [Ok.c,XR,Ok.e,Ok.d,XP,O2]
  ·subst hc
   refine Ok.e (λh=>Ok.d ?_) λh=>Ok.d ?_
   ·rw[bad (by simpa using h)];rfl
   simp_all [zD,zA,okB,YZ]
theorem qE:((List.range 256).all λn=>decide ((g81 (n:Int)).run=some (Db (n:Int))))=true:=by kernel_rfl
theorem Cv(c:Int)(h:0<=c/\c < 256):Qq (s81 c) (λr=>r=Db c):=by
 unfold s81
 refine Qq.fn ?_
 obtain⟨n,rfl⟩:=Int.eq_ofNat_of_zero_le h.1
 have:=zF.1 qE n (by simp;omega)
 exact⟨_,by grind,rfl⟩
def ZA(c:Int):Int:=if 48<=c/\c<=57 then c - 48 else if 65<=c/\c<=70 then c - 55 else -1
theorem Th:((List.range 256).all λn=>(Qjt (n:Int)).run==some (ZA (n:Int)))=true:=by kernel_rfl
theorem XS(c:Int)(h:0<=c/\c < 256):Qq (dU c) (λr=>r=ZA c):=by
 unfold dU
 refine Qq.fn ?_
 obtain⟨n,rfl⟩:=Int.eq_ofNat_of_zero_le h.1
 have:=zF.1 Th n (by simp;omega)
 exact⟨_,by grind,rfl⟩
theorem uO(c:Int):decide (ZA c < 0)=!Mb c:=by
 unfold ZA Mb
 grind
theorem jE:((List.range 256).all λa=>(List.range 256).all λb=>!(Mb (a:Int)&&Mb (b:Int)) || (Tc (16 * ZA (a:Int)+ZA (b:Int))==(a:Int)&&(Tb (16 * ZA (a:Int)+ZA (b:Int))==(b:Int)&&decide (16 * ZA (a:Int)+ZA (b:Int) < 256/\0<=16 * ZA (a:Int)+ZA (b:Int)))))=true:=by kernel_rfl
theorem Ba{a b:Int}(ha:0<=a/\a < 256)(hb:0<=b/\b < 256)(h1:Mb a=true)(h2:Mb b=true):Tc (16 * ZA a+ZA b)=a/\Tb (16 * ZA a+ZA b)=b/\0<=16 * ZA a+ZA b/\16 * ZA a+ZA b < 256:=by
 obtain⟨n,rfl⟩:=Int.eq_ofNat_of_zero_le ha.1
 obtain⟨m,rfl⟩:=Int.eq_ofNat_of_zero_le hb.1
 have:=zF.1 (zF.1 jE n (by simp;omega)) m (by simp;omega)
 grind
theorem qU(c:Int):(Db c).size=2:=by unfold Db;rw[W3];rfl
theorem ON(l:List Int):(zzQ l).length=3 * l.length - 1:=by
 induction l with
 | nil=>rfl
 | cons c l ih=>
  cases l with
  | nil=>rfl
  | cons d l=>
   grind [List.length_cons,zzQ]
theorem Kp(s:za)(hs:s.size<=100000):Qq (s42 s) (λr=>r=I3 s):=by
 unfold s42
 refine Qq.fn ?_
 unfold g42
 refine Ok.b (R:=λe=>e=I3 s) ?_ λe he=>Ok.d he
 refine Ok.s s.size (by omega) (λk y=>y=(ZG++strOfNums (zzQ ((Q4 s).take k)),(k:Int))) rfl (λk y hy hk=>?_) λy hy=>?_
 ·subst hy
  have hlen:((Q4 s).take k).length=k:=by rw[wK,D3];omega
  have hz:(ZG++strOfNums (zzQ ((Q4 s).take k))).size<=8+3 * k:=by
   rw[ByteArray.size_append,W3,ON,hlen]
   show 8+_<=_
   omega
  have hnil:((Q4 s).take k=[])↔k=0:=by grind
  refine Ok.t (by simp;omega) (Ok.b (R:=λe=>e=ZG++strOfNums (if (Q4 s).take k=[] then [] else zzQ ((Q4 s).take k)++[58])/\e.size<=9+3 * k) ?_ λe he=>?_)
  ·refine Ok.e (λh=>Ok.k ?_ (Ok.d ?_)) λh=>Ok.d ?_
   ·rw[zA];show (ZG++strOfNums (zzQ ((Q4 s).take k))).size+1<=_;omega
   ·have h:0 < k:=by simpa using h
    rw[if_neg (λe=>by rw[hnil] at e;omega)]
    refine⟨by rw[P6,<-ByteArray.append_assoc];rfl,?_⟩
    rw[ByteArray.size_append];show (ZG++strOfNums (zzQ ((Q4 s).take k))).size+1<=_;omega
   ·have h:k=0:=by grind
    rw[if_pos (hnil.2 h)]
    subst h
    exact⟨rfl,Nat.le_trans hz (by omega)⟩
  ·obtain⟨rfl,hz2⟩:=he
   refine Ok.k (by simp;omega) (Ok.c (Cv _ (I0 _ _)) λr hr=>?_)
   subst hr
   refine Ok.k ?_ (Ok.d ?_)
   ·rw[zA,qU];omega
   ·show (_,_)=(_,_)
    rw[Z9 hk (by omega),List.take_add_one,T2 hk]
    show (_,_)=(ZG++strOfNums (zzQ ((Q4 s).take k++[QQ s (k:Int)])),_)
    rw[Vc,P6,<-ByteArray.append_assoc]
    rfl
 ·subst hy
  refine Ok.f (by simp) (Ok.d ?_)
  rw[List.take_of_length_le (by rw[D3];omega)]
  rfl
def MC(p:za)(i:Nat):Int:=16 * ZA (QQ p ((8+3 * i:Nat):Int))+ZA (QQ p ((9+3 * i:Nat):Int))
def WL(p:za)(i:Nat):Bool:=Mb (QQ p ((8+3 * i:Nat):Int))&&Mb (QQ p ((9+3 * i:Nat):Int))
theorem Sc:∀(l:List Int) (i:Nat) (c:Int),l[i]?=some c->(zzQ l)[3 * i]?=some (Tc c)/\(zzQ l)[3 * i+1]?=some (Tb c)/\(i+1 < l.length->(zzQ l)[3 * i+2]?=some 58)
 | [],i,c,h=>by simp at h
 | [x],i,c,h=>by
  cases i with
  | zero=>simp at h;subst h;exact⟨rfl,rfl,λh=>by simp at h⟩
  | succ i=>simp at h
 | x :: y :: l,i,c,h=>by
  cases i with
  | zero=>simp at h;subst h;exact⟨rfl,rfl,λ_=>rfl⟩
  | succ i=>
   have ih:=Sc (y :: l) i c (by simpa using h)
   grind [zzQ]
theorem BR{p:za}(hp:p.size=103)(hx:∀i,i < 32->WL p i=true):decide (I3 (strOfNums ((List.range 32).map (MC p)))=p)=YW p:=by
 have hx1:∀i,i < 32->Mb (QQ p ((8+3 * i:Nat):Int))=true/\Mb (QQ p ((9+3 * i:Nat):Int))=true:=λi hi=>by
  simp_all [zD,WL]
 have two:=λi hi=>Ba (I0 p ((8+3 * i:Nat):Int)) (I0 p ((9+3 * i:Nat):Int)) (hx1 i hi).1 (hx1 i hi).2
 have ho:Q4 (strOfNums ((List.range 32).map (MC p)))=(List.range 32).map (MC p):=N9 λc hc=>by
  obtain⟨i,hi,rfl⟩:=zG.1 hc
  have:=two i (by simpa using hi)
  exact⟨this.2.2.1,this.2.2.2⟩
 generalize hV:(List.range 32).map (MC p)=V at ho
 have hVl:V.length=32:=by grind
 have hVg:∀i,i < 32->V[i]?=some (MC p i):=(by grind)
 have hrng:∀c,c∈zzQ V->0<=c/\c < 256:=by
  have gen:∀l:List Int,∀c,c∈zzQ l->0<=c/\c < 256:=by
   intro l
   induction l with
   | nil=>grind [zzQ]
   | cons x l ih=>
    cases l with
    | nil=>
     intro c hc
     simp only[zzQ,zN,zR,or_false] at hc
     rcases hc with rfl|rfl<;>exact I0 _ _
    | cons y l=>
     intro c hc
     simp only[zzQ,zN] at hc
     rcases hc with rfl|rfl|rfl|hc
     ·exact I0 _ _
     ·exact I0 _ _
     ·decide
     grind
  exact gen V
 have hS:Q4 (I3 (strOfNums V))=Q4 ZG++zzQ V:=by simp_all [Kc,N9,I3]
 have hSz:(I3 (strOfNums V)).size=103:=by
  rw[<-D3,hS,wD,ON,hVl];rfl
 have at0:∀i:Nat,i < 8->QQ (I3 (strOfNums V)) (i:Int)=QQ ZG (i:Int):=λi hi=>by
  have h1:=T2 (s:=I3 (strOfNums V)) (k:=i) (by omega)
  rw[hS,wg (by rw[D3];exact hi),T2 (by exact hi)] at h1
  grind
 have at8:∀i:Nat,i < 95->some (QQ (I3 (strOfNums V)) ((8+i:Nat):Int))=(zzQ V)[i]?:=λi hi=>by
  rw[<-T2 (s:=I3 (strOfNums V)) (k:=8+i) (by omega),hS,wl (by rw[D3];show 8<=_;omega)]
  rw[D3,show 8+i - ZG.size=i from by show 8+i - 8=i;omega]
 have pt:∀i:Nat,i < 95->(QQ (I3 (strOfNums V)) ((8+i:Nat):Int)=QQ p ((8+i:Nat):Int)↔Tt i (QQ p ((8+i:Nat):Int))=true):=λi hi=>by
  have h1:=at8 i hi
  obtain⟨g0,g1,g2⟩:=Sc V (i / 3) (MC p (i / 3)) (hVg (i / 3) (by omega))
  obtain⟨t0,t1,_⟩:=two (i / 3) (by omega)
  have hx2:=hx1 (i / 3) (by omega)
  unfold Tt
  by_cases c2:i % 3=2
  ·grind
  ·rw[if_neg c2]
   by_cases c0:i % 3=0
   ·rw[show 3 * (i / 3)=i by omega] at g0 t0 hx2
    rw[g0] at h1
    rw[zV h1]
    have:Tc (MC p (i / 3))=QQ p ((8+i:Nat):Int):=by grind [MC]
    grind
   ·have hi3:i=3 * (i / 3)+1:=by omega
    grind [Option.some.inj,Tb,MC,QQ]
 rw[Bool.eq_iff_iff,zA]
 unfold YW
 rw[zO hp,Bool.true_and,zD,zA,zF]
 constructor
 ·intro h
  refine⟨?_,(by grind)⟩
  refine Fm (by rw[ByteArray.size_extract];show min 8 p.size - 0=8;omega) λi hi=>?_
  have hi:i < 8:=by rw[ByteArray.size_extract] at hi;omega
  rw[Xq (by omega) (by omega),zQ,<-at0 i hi,h]
 ·intro ⟨h1,h2⟩
  refine Fm (by omega) λi hi=>?_
  by_cases h8:i < 8
  ·rw[at0 i h8,<-h1,Xq (by omega) (by omega),zQ]
  ·have:=(pt (i - 8) (by omega)).2 (h2 (i - 8) (by simp;omega))
   rwa [show 8+(i - 8)=i by omega] at this
theorem XN(p:za)(hs:p.size<=1000000):Qq (dI p) (λr=>r=YW p):=by
 unfold dI
 refine Qq.fn ?_
 unfold Qh3
 refine Ok.e (λh=>Ok.d ?_) λh=>?_
 ·grind [decide_eq_false,YW]
 ·have hp:p.size=103:=by grind
  refine Ok.p (R:=Sum.elim (λ_=>YW p=false) (λe=>e=strOfNums ((List.range 32).map (MC p))/\∀i,i < 32->WL p i=true)) ?_ (λe he=>Ok.d he.symm) λe he=>?_
  ·refine Ok.s 32 (by decide) (λk y=>y=(strOfNums ((List.range k).map (MC p)),(k:Int))/\∀i,i < k->WL p i=true) ⟨rfl,(by grind)⟩ (λk y hy hk=>?_) λy hy=>?_
   ·obtain⟨rfl,hI⟩:=hy
    have e3:Q0 ((3:Int) * (k:Int))=((3 * k:Nat):Int):=by grind [Z4]
    have e8:Q0 ((8:Int)+((3 * k:Nat):Int))=((8+3 * k:Nat):Int):=by grind [Z4]
    have e9:Q0 ((9:Int)+((3 * k:Nat):Int))=((9+3 * k:Nat):Int):=by grind [Z4]
    refine Ok.t (by simp;omega) ?_
    rw[e3,e8,e9]
    have b1:=I0 p ((8+3 * k:Nat):Int)
    have b2:=I0 p ((9+3 * k:Nat):Int)
    refine Ok.k (by simp;omega) (Ok.c (XS _ b1) λr1 h1=>Ok.k (by simp;omega) (Ok.c (XS _ b2) λr2 h2=>?_))
    subst h1 h2
    refine Ok.n (R:=λc=>c=!WL p k) ?_ λc hc=>?_
    ·grind [Bool.not_and,uO,Ok.e,Ok.d,WL]
    ·subst hc
     refine Ok.e (λh=>Ok.d ?_) λh=>?_
     ·have h:WL p k=false:=by simpa using h
      show YW p=false
      cases hpr:YW p with
      | false=>rfl
      | true=>
       unfold YW at hpr
       simp only[zD,zA,zF] at hpr
       have q1:=hpr.2.2 (3 * k) (by simp;omega)
       have q2:=hpr.2.2 (3 * k+1) (by simp;omega)
       unfold Tt at q1 q2
       rw[if_neg (by omega)] at q1 q2
       grind [WL]
     ·have h:WL p k=true:=by simpa using h
      have h':=h
      unfold WL at h'
      rw[zD] at h'
      obtain⟨_,_,v0,v1⟩:=Ba b1 b2 h'.1 h'.2
      have ev:Qk (Q0 ((Q0 ((16:Int) * ZA (QQ p ((8+3 * k:Nat):Int))))+ZA (QQ p ((9+3 * k:Nat):Int))))=MC p k:=by
       grind [Z4,L3,ZA,QQ,MC]
      rw[ev]
      refine Ok.k ?_ (Ok.d ⟨?_,λi hi=>?_⟩)
      ·rw[W3,W3,zA];simp;omega
      ·rw[Z9 hk (by decide),List.range_succ,wE,P6];rfl
      grind
   ·obtain⟨rfl,hI⟩:=hy
    exact Ok.f rfl (Ok.d ⟨rfl,hI⟩)
  ·obtain⟨rfl,hI⟩:=he
   grind [Ok.c,Kp,W3,Ok.d,BR]
theorem oP{t:Y9}(h:t=Y9.mk Ey J1):WZ t:=by subst h;exact⟨by kernel_rfl,rfl⟩
theorem Ks(b:Z6)(hv:O2 b=true):Qq (s44 b) (λr=>r=I3 (Hm (X4 b))):=by
 have hz:=Ws hv
 obtain⟨n1,n2⟩:=N1 (F6 hv).1
 unfold s44
 refine Qq.fn ?_
 unfold g44
 refine Ok.c IP λt ht=>Ok.c (XP b hv) λr hr=>?_
 subst hr
 refine Ok.c (Ld t (oP ht) (X4 b) (by omega)) λr hr=>?_
 subst hr
 exact Ok.c (Kp _ (by rw[T0];decide)) λr hr=>Ok.d hr
theorem Pa(b:Z6)(l:List za)(hl:∀p,p∈l->p.size<=1000000):Qq (nR b l) (λr=>r.2=CH b l):=by
 unfold nR
 refine Qq.fn ?_
 unfold Qyt CH
 refine Ok.c (XR b) λr hr=>?_
 subst hr
 refine Ok.e (λh=>Ok.d ?_) λh=>?_
 ·rw[h];rfl
 ·rw[h]
  have hv:O2 b=true:=by simpa using h
  refine Ok.e (λh=>Ok.d ?_) λh=>?_
  ·grind [M8,decide]
  ·have hn:l.length<=8:=by grind [M8]
   rw[show decide (8 < l.length)=false from by simp;omega]
   refine Ok.p (R:=Sum.elim (λ_=>(l.any λx=>!YW x)=true) (λ_=>(l.any λx=>!YW x)=false)) ?_ (by grind [Ok.d,YW]) λe he=>?_
   ·refine Ok.s l.length (by omega) (λk y=>y=(k:Int)/\((l.take k).any λx=>!YW x)=false) ⟨rfl,rfl⟩ (λk y hy hk=>?_) λy hy=>?_
    ·obtain⟨rfl,h1⟩:=hy
     obtain⟨x,hx,hx'⟩:=E4 (l:=l) (k:=k) hk
     grind [S9,Ok.t,M8,Ok.r,Ok.c,XN,List.mem_of_getElem?,Ok.e,Ok.d,I9,Z9]
    ·obtain⟨rfl,h1⟩:=hy
     grind [List.take_length,Ok.f,M8,Ok.d]
   ·rw[show (l.any λx=>!YW x)=false from he]
    refine Ok.c (Ks b hv) λp hp=>?_
    subst hp
    generalize I3 (Hm (X4 b))=p
    refine Ok.p (R:=Sum.elim (λ_=>(l.any λx=>decide (p=x))=true) (λ_=>(l.any λx=>decide (p=x))=false)) ?_ (by grind [Ok.d,decide]) (by grind [Ok.d,decide])
    refine Ok.s l.length (by omega) (λk y=>y=(k:Int)/\((l.take k).any λx=>decide (p=x))=false) ⟨rfl,rfl⟩ (λk y hy hk=>?_) λy hy=>?_
    ·obtain⟨rfl,h1⟩:=hy
     obtain⟨x,hx,hx'⟩:=E4 (l:=l) (k:=k) hk
     have h2:=S9 hx' h1
     have hc:decide (x=p)=decide (p=x):=by grind
     grind [Ok.t,M8,Ok.r,Ok.e,Ok.d,I9,Z9]
    ·obtain⟨rfl,h1⟩:=hy
     grind [List.take_length,Ok.f,M8,Ok.d]
theorem GY(b:Z6)(l:List za)(now:Int)(hl:∀p,p∈l->p.size<=1000000):Qq (dY b l now) (λr=>r=UR b l now):=by
 unfold dY
 refine Qq.fn ?_
 unfold Qjk UR
 refine Ok.c (Pa b l hl) λr hr=>?_
 rw[hr]
 refine Ok.e (by grind [Ok.d]) λh=>?_
 rw[h]
 refine Ok.n (R:=λc=>c=(decide (now < 0) || decide (1099511627776 < now))) (by grind [Ok.e,Ok.d]) λc hc=>?_
 subst hc
 refine Ok.e (by grind [Ok.d]) λh=>?_
 rw[h]
 refine Ok.n (R:=λc=>c=(decide (now < b.fG) || decide (b.fH < now))) (by grind [Ok.e,Ok.d]) λc hc=>?_
 grind [Ok.e,Ok.d]
theorem Ud(s:za):Qq (KT s) (λr=>r=okB s):=by
 grind [oF,Qq.fn,Ok.c,Md,Ok.d,KT,Qh5,YZ,okB]
def SH(p:U0)(k:Int):Bool:=if k=0 then WS p.fq&&(WS p.fP&&WS p.fe) else if k=1 then UW p.fq&&(UW p.fP&&WS p.fe) else UW p.fq&&(UW p.fP&&okB p.fe)
theorem Cb(p:U0)(k:Int):Qq (rN p k) (λr=>r=SH p k):=by
 unfold rN
 refine Qq.fn ?_
 unfold Qjc SH
 refine Ok.e (λh=>Ok.d ?_) λh=>Ok.e (λh2=>?_) λh2=>?_
 ·rw[if_pos (by simpa using h),Bool.and_true];rfl
 ·rw[if_neg (by simpa using h),if_pos (by simpa using h2)]
  refine Ok.n (R:=λc=>c=_) ?_ λc hc=>Ok.d hc
  rw[<-int32,<-int32]
  exact Y7 λ_=>Y7 λ_=>Ok.d rfl
 ·rw[if_neg (by simpa using h),if_neg (by simpa using h2)]
  refine Ok.n (R:=λc=>c=_) ?_ λc hc=>Ok.d hc
  rw[<-int32,<-int32]
  exact Y7 λ_=>Y7 (by grind [Ok.c,Ud,Ok.d])
theorem Cc(s:Q2)(k:Int):Qq (rG s k) (λr=>r=UI s k):=by
 unfold rG
 refine Qq.fn ?_
 unfold Qjb UI
 refine Ok.e (λh=>Ok.d ?_) λh=>?_
 ·rw[if_pos (by simpa using h),M8,Bool.eq_iff_iff];simp
 ·rw[if_neg (by simpa using h)]
  refine Ok.n (R:=λc=>c=_) ?_ λc hc=>Ok.d hc
  refine Ok.e (λh2=>?_) λh2=>Ok.d ?_
  ·obtain⟨n,hn⟩:=GR (l:=s.fo) (by rw[M8] at h2;simp at h2;omega)
   rw[hn]
   refine Ok.r rfl rfl (Ok.c (XG n) λr hr=>?_)
   show Ok _ (λc=>c=(P7 n&&(n.ft==k&&n.fZ==Q0 (s.fm - 1))))
   rw[<-hr]
   exact Y7 λ_=>Ok.r rfl rfl (Y7 λ_=>Ok.r rfl rfl (Ok.d rfl))
  grind [M8]
def Bp(s:Q2)(least most told known last:Int)(timer:Bool):Bool:=decide (least<=s.fm)&&(decide (s.fm<=most)&&((s.fE.size:Int)==told&&(timer==decide (0<=s.fA.fF)&&(Mu s known&&UI s last))))
theorem Gl(s:Q2)(k:Int)(hk:k=0\/k=1\/k=2):(SH s.fh k&&(((s.fI.size:Int)==32)==(k==2)&&!(WS s.fI==(k==2))))=Mu s k:=by
 have e0:WS s.fI=decide (s.fI.size=0):=by unfold WS;simp_all
 unfold SH Mu
 rw[int32]
 rcases hk with rfl|rfl|rfl
 ·simp only[if_true]
  grind [Bool.and_assoc,decide_eq_false,UW]
 ·simp only[show ¬(1:Int)=0 by decide,if_true,if_false]
  grind [Bool.and_assoc,decide_eq_false,UW]
 ·simp only[show ¬(2:Int)=0 by decide,show ¬(2:Int)=1 by decide,if_false]
  grind [decide_eq_false,UW]
theorem Lg(s:Q2)(least most told known last:Int)(timer:Bool)(ht:0<=told)(hk:known=0\/known=1\/known=2):Qq (Df s least most told known (known==2) last timer) (λr=>r=Bp s least most told known last timer):=by
 unfold Df
 refine Qq.fn ?_
 unfold Qh2 Bp
 refine Ok.n (R:=λc=>c=_) ?_ λc hc=>Ok.d hc
 refine Y7 λ_=>Y7 λ_=>?_
 rw[if_neg (show ¬(0:Int) > told by omega)]
 refine Y7 λ_=>Ok.c (Cb s.fh known) λr hr=>?_
 rw[<-Gl s known hk,<-hr,show (timer==decide (0<=s.fA.fF)&&(r&&(((s.fI.size:Int)==32)==(known==2)&&!(WS s.fI==(known==2)))&&UI s last))=(r&&((((s.fI.size:Int)==32)==(known==2))&&(!(WS s.fI==(known==2))&&(UI s last&&(decide (0<=s.fA.fF)==timer))))) from by
  generalize (((s.fI.size:Int)==32)==(known==2))=A
  generalize (!(WS s.fI==(known==2)))=B
  generalize UI s last=C
  generalize decide (0<=s.fA.fF)=D
  cases A<;>cases B<;>cases C<;>cases D<;>cases r<;>cases timer<;>rfl]
 refine Y7 λ_=>Y7 λ_=>Y7 λ_=>Ok.c (Cc s last) λr2 hr2=>?_
 rw[<-hr2]
 refine Y7 λ_=>Ok.c (R:=λr=>r=decide (0<=s.fA.fF)) ⟨_,rfl,rfl⟩ (by grind [Ok.d])
def gE(s:Q2):Bool:=s.gc==2 || (s.gc==4 || (s.gc==6 || (s.gc==9 || s.gc==10)))
def mV(s:Q2):Bool:=
 bif s.fw==7 then Bp s 0 8 0 0 0 false&&gE s else
 bif s.gc != 0 then false else
 bif s.fw==1&&s.fB==1 then Bp s 0 0 0 0 0 false else
 bif s.fw==1&&s.fm==0 then Bp s 0 0 0 0 0 false else
 bif s.fw==1 then Bp s 1 6 0 0 2 false else
 bif s.fw==2&&s.fB==1 then Bp s 1 1 0 0 1 true else
 bif s.fw==3&&s.fB==1 then Bp s 2 7 100 0 1 true else
 bif s.fw==4&&!(s.fB==1) then Bp s 1 7 (168+(s.fe.size:Int)) 1 3 true else
 bif s.fw==5&&s.fB==1 then Bp s 3 8 (204+((s.fe.size:Int)+(s.fh.fe.size:Int))) 2 4 true else
 bif s.fw==6&&s.fB==1 then Bp s 3 8 (240+((s.fe.size:Int)+(s.fh.fe.size:Int))) 2 0 false else
 bif s.fw==6 then Bp s 2 8 (240+((s.fe.size:Int)+(s.fh.fe.size:Int))) 2 5 false else false
theorem Bh(s:Q2)(x:H1):S5 s x=(s.fB==x.JD&&(s.fw==x.Zv&&Bp s x.Yr x.JX (Hu s x) x.QC x.ET x.KQ)):=rfl
theorem TB(s:Q2)(h:s.fB=1\/s.fB=2):mV s=(Rk s&&W6.any (S5 s)):=by
 unfold Rk mV W6
 simp only[List.any_cons,List.any_nil,Bool.or_false,Bh,Hu]
 by_cases h7:s.fw=7
 ·rw[h7]
  grind [Bool.and_comm,gE]
 ·rw[if_neg h7]
  by_cases hw:s.gc=0
  rotate_left
  ·grind
  rw[hw]
  by_cases h1:s.fw=1
  ·grind [decide_eq_false,Bp]
  grind
theorem aM(s:Q2)(h1:s.fB≠1)(h2:s.fB≠2):W6.any (S5 s)=false:=by
 simp_all [Bh,W6]
theorem A9{P:Program}{G:ze}{a:Nat}{c d e:Bool}{y:T P G Bool}(he:e=!c)(h:c=false->Ok y (λr=>r=!d)):Ok (.br a c (.done true) y) (λr=>r=!(e&&d)):=by
 subst he;exact EZ h
theorem MW{P:Program}{G:ze}{a:Nat}{c d:Bool}{y:T P G Bool}(h:c=false->Ok y (λr=>r=d)):Ok (.br a c (.done true) y) (λr=>r=(c || d)):=by
 simp_all [Ok.e,Ok.d]
def jV(s:Q2):Bool:=decide (0<=s.fj)&&(decide (s.fj<=1099511627776)&&(UW s.fV&&(UW s.fQ&&(UW s.fq&&(WV s&&(okB s.fe&&(decide (s.fp.length<=8)&&(decide (0<=s.fm)&&(decide (s.fm<=8)&&Uu s.fA)))))))))
theorem bN(s:za):UW s=!((s.size:Int) != 32):=by rw[<-int32];simp[bne]
theorem eK(s:Q2)(h:W6.any (S5 s)=true):0<=s.fm/\s.fm<=8:=by
 obtain⟨x,hx,h1⟩:=List.any_eq_true.1 h
 have hb:(W6.all λx=>decide (0<=x.Yr/\x.JX<=8))=true:=by decide
 have hb:=zF.1 hb x hx
 unfold S5 at h1
 grind
theorem Ue(s:Q2)(h:Sm s):Qq (s63 s) (λr=>r=QB s):=by
 unfold s63
 refine Qq.fn ?_
 unfold g63
 have tail:∀a1 a2 a3 a4 a5:Nat,Ok (T.call a1 (KT s.fe) [] [] (λr=>.br a2 (!r) (.done true) (.br a3 (decide ((8:Int) < (M6 Z2 s.fp))) (.done true) (.br a4 (decide (s.fm < 0)) (.done true) (.br a5 (decide ((8:Int) < s.fm)) (.done true) (.cl 2079 (Dg s.fA) λr2=>.done (!r2)))))):TT Bool) (λr=>r=!(okB s.fe&&(decide (s.fp.length<=8)&&(decide (0<=s.fm)&&(decide (s.fm<=8)&&Uu s.fA))))):=λa1 a2 a3 a4 a5=>by
  refine Ok.c (Ud _) λr hr=>?_
  rw[<-hr]
  refine A9 (by simp) λ_=>A9 (by rw[M8,Pc,Bool.not_not,decide_eq_decide];omega) λ_=>A9 (by grind) λ_=>A9 (by grind) (by grind [Ok.c,GQ,Ok.d])
 refine Ok.n (R:=λc=>c=!(decide (s.fB=1\/s.fB=2)&&jV s)) ?_ λc hc=>?_
 ·unfold jV WV
  by_cases h1:s.fB=1
  ·rw[zO (Or.inl h1),Bool.true_and]
   rw[if_neg (by omega)]
   simp only[h1]
   refine Ok.f rfl (A9 (by grind) λ_=>A9 (by grind) λ_=>A9 (bN _) λ_=>A9 (bN _) λ_=>A9 (bN _) λ_=>Ok.t rfl (A9 (by unfold WS;simp) λ_=>Ok.f rfl (tail _ _ _ _ _)))
  ·by_cases h2:s.fB=2
   ·rw[zO (Or.inr h2),Bool.true_and]
    rw[if_pos h2]
    simp only[h2]
    refine Ok.t rfl (Ok.f rfl (A9 (by grind) λ_=>A9 (by grind) λ_=>A9 (bN _) λ_=>A9 (bN _) λ_=>A9 (bN _) λ_=>Ok.f rfl (Ok.t rfl (A9 (bN _) λ_=>tail _ _ _ _ _))))
   ·rw[show decide (s.fB=1\/s.fB=2)=false from wi (λq=>q.elim h1 h2),Bool.false_and]
    exact Ok.t (by simpa using h1) (Ok.t (by simpa using h2) (Ok.d rfl))
 subst hc
 have eq0:QB s=((decide (s.fB=1\/s.fB=2)&&jV s)&&(s.fp.all YW&&mV s)):=by
  unfold QB iX jV Lw
  by_cases hs:s.fB=1\/s.fB=2
  ·rw[zO hs,TB s hs,Bool.true_and]
   unfold N0
   cases ha:W6.any (S5 s) with
   | false=>simp
   | true=>
    obtain⟨q1,q2⟩:=eK s ha
    grind
  grind [decide_eq_false,aM]
 rw[eq0]
 cases hF:(decide (s.fB=1\/s.fB=2)&&jV s) with
 | false=>exact Ok.t rfl (Ok.d rfl)
 | true=>
  refine Ok.f rfl ?_
  rw[Bool.true_and]
  have zb:(s.fe.size:Int)<=100000:=by have:=h.bd;omega
  have zp:(s.fh.fe.size:Int)<=100000:=by have:=h.pb;omega
  have w1:Q0 ((168:Int)+(s.fe.size:Int))=168+(s.fe.size:Int):=Z4 (by omega) (by omega)
  have w2:Q0 ((s.fe.size:Int)+(s.fh.fe.size:Int))=(s.fe.size:Int)+(s.fh.fe.size:Int):=Z4 (by omega) (by omega)
  have w3:Q0 ((204:Int)+((s.fe.size:Int)+(s.fh.fe.size:Int)))=204+((s.fe.size:Int)+(s.fh.fe.size:Int)):=Z4 (by omega) (by omega)
  have w4:Q0 ((240:Int)+((s.fe.size:Int)+(s.fh.fe.size:Int)))=240+((s.fe.size:Int)+(s.fh.fe.size:Int)):=Z4 (by omega) (by omega)
  refine Ok.p (R:=Sum.elim (λ_=>s.fp.all YW=false) (λ_=>s.fp.all YW=true)) ?_ (by grind [Ok.d,YW]) λe he=>?_
  ·have hl:=h.pr
   refine Ok.s s.fp.length (by omega) (λk y=>y=(k:Int)/\((s.fp.take k).any λx=>!YW x)=false) ⟨rfl,rfl⟩ (λk y hy hk=>?_) λy hy=>?_
   ·obtain⟨rfl,h1⟩:=hy
    obtain⟨x,hx,hx'⟩:=E4 (l:=s.fp) (k:=k) hk
    have h2:=S9 hx' h1
    refine Ok.t (by grind [M8]) (Ok.r (by simp) hx (Ok.c (XN x (by have:=h.ps x (zP hx');omega)) λr hr=>?_))
    grind [Ok.e,Ok.d,I9,DP,Z9,YW]
   ·obtain⟨rfl,h1⟩:=hy
    grind [List.take_length,Ok.f,M8,Ok.d,DP,YW]
  rw[show s.fp.all YW=true from he,Bool.true_and]
  unfold mV
  have as0:=λ(a b c e:Int) (t:Bool) (hc:0<=c)=>Lg s a b c 0 e t hc (.inl rfl)
  have as1:=λ(a b c e:Int) (t:Bool) (hc:0<=c)=>Lg s a b c 1 e t hc (.inr (.inl rfl))
  have as2:=λ(a b c e:Int) (t:Bool) (hc:0<=c)=>Lg s a b c 2 e t hc (.inr (.inr rfl))
  have bz:(0:Int)<=(s.fe.size:Int):=by omega
  have pz:(0:Int)<=(s.fh.fe.size:Int):=by omega
  refine Ok.e (λh1=>?_) λh1=>?_
  ·rw[h1,cond_true]
   refine Ok.n (R:=λc=>c=_) ?_ λc hc=>Ok.d hc
   refine Ok.c (as0 0 8 0 0 false (by decide)) λr hr=>?_
   rw[<-hr]
   unfold gE
   exact Y7 λ_=>MW λ_=>MW λ_=>MW λ_=>MW λ_=>Ok.d rfl
  rw[h1,cond_false]
  refine Ok.e (λh2=>Ok.d (by rw[h2];rfl)) λh2=>?_
  rw[h2,cond_false]
  refine Ok.n (R:=λc=>c=(s.fw==1&&s.fB==1)) (Y7 λ_=>Ok.d rfl) λc hc=>?_
  rw[<-hc]
  refine Ok.e (λh3=>?_) λh3=>?_
  ·rw[h3,cond_true];exact Ok.c (as0 0 0 0 0 false (by decide)) λr hr=>Ok.d hr
  rw[h3,cond_false]
  refine Ok.n (R:=λc=>c=(s.fw==1&&s.fm==0)) (Y7 λ_=>Ok.d rfl) λc hc=>?_
  rw[<-hc]
  refine Ok.e (λh4=>?_) λh4=>?_
  ·rw[h4,cond_true];exact Ok.c (as0 0 0 0 0 false (by decide)) λr hr=>Ok.d hr
  rw[h4,cond_false]
  refine Ok.e (λh5=>?_) λh5=>?_
  ·rw[h5,cond_true];exact Ok.c (as0 1 6 0 2 false (by decide)) λr hr=>Ok.d hr
  rw[h5,cond_false]
  refine Ok.n (R:=λc=>c=(s.fw==2&&s.fB==1)) (Y7 λ_=>Ok.d rfl) λc hc=>?_
  rw[<-hc]
  refine Ok.e (λh6=>?_) λh6=>?_
  ·rw[h6,cond_true];exact Ok.c (as0 1 1 0 1 true (by decide)) λr hr=>Ok.d hr
  rw[h6,cond_false]
  refine Ok.n (R:=λc=>c=(s.fw==3&&s.fB==1)) (Y7 λ_=>Ok.d rfl) λc hc=>?_
  rw[<-hc]
  refine Ok.e (λh6=>?_) λh6=>?_
  ·rw[h6,cond_true];exact Ok.c (as0 2 7 100 1 true (by decide)) λr hr=>Ok.d hr
  rw[h6,cond_false]
  refine Ok.n (R:=λc=>c=(s.fw==4&&!(s.fB==1))) (Y7 λ_=>Ok.d rfl) λc hc=>?_
  rw[<-hc]
  refine Ok.e (λh6=>?_) λh6=>?_
  ·rw[h6,cond_true,w1];exact Ok.c (as1 1 7 _ 3 true (by omega)) λr hr=>Ok.d hr
  rw[h6,cond_false]
  refine Ok.n (R:=λc=>c=(s.fw==5&&s.fB==1)) (Y7 λ_=>Ok.d rfl) λc hc=>?_
  rw[<-hc]
  refine Ok.e (λh6=>?_) λh6=>?_
  ·rw[h6,cond_true,w2,w3];exact Ok.c (as2 3 8 _ 4 true (by omega)) λr hr=>Ok.d hr
  rw[h6,cond_false]
  refine Ok.n (R:=λc=>c=(s.fw==6&&s.fB==1)) (Y7 λ_=>Ok.d rfl) λc hc=>?_
  rw[<-hc]
  refine Ok.e (λh6=>?_) λh6=>?_
  ·rw[h6,cond_true,w2,w4];exact Ok.c (as2 3 8 _ 0 false (by omega)) λr hr=>Ok.d hr
  rw[h6,cond_false]
  refine Ok.e (λh6=>?_) λh6=>?_
  ·rw[h6,cond_true,w2,w4];exact Ok.c (as2 2 8 _ 5 false (by omega)) λr hr=>Ok.d hr
  rw[h6,cond_false]
  exact Ok.d rfl
theorem Pe(s:Q2)(h:Sm s):Qq (eD s) (λr=>r=bif QB s then 0 else 200):=by
 grind [oF,Qq.fn,Ok.c,Ue,Ok.e,Ok.d,eD,g29,QB]
theorem Cr(s:Q2)(h:Sm s):Qq (eA s) (λr=>r=bif !QB s then (0,200) else bif decide (s.fA.fF < 0) then (0,4) else (s.fA.fF,0)):=by
 unfold eA
 refine Qq.fn ?_
 unfold g27
 refine Ok.c (Ue s h) λr hr=>?_
 subst hr
 cases QB s with
 | false=>exact Ok.t rfl (Ok.d rfl)
 | true=>
  refine Ok.f rfl (Ok.c (R:=λr=>r=decide (0<=s.fA.fF)) ⟨_,rfl,rfl⟩ λr hr=>?_)
  grind [Pc,Ok.e,Ok.d,decide]
end Go.Proofs.YtjdieimefebnfaaGreatDoor
namespace Go.EV
open Go
theorem KO(n:Int):Z3 n=n % 18446744073709551616:=by
 show IntKind.u64.wrap n=_
 simp[IntKind.wrap,IntKind.bits,IntKind.signed]
theorem U2{n:Int}(h0:0<=n)(h:n < 18446744073709551616):Z3 n=n:=by rw[KO];omega
theorem Aj{n:Int}(h:0<=n):∃m:Nat,n=(m:Int):=⟨n.toNat,by omega⟩
theorem kD(a b:Nat)(ha:a < 18446744073709551616)(hb:b < 18446744073709551616):J9 .u64 (a:Int) (b:Int)=((a &&& b:Nat):Int):=by
 show IntKind.u64.wrap ((BitVec.ofInt 64 (a:Int) &&& BitVec.ofInt 64 (b:Int)).toNat:Int)=_
 rw[BitVec.ofInt_natCast,BitVec.ofInt_natCast,BitVec.toNat_and,BitVec.toNat_ofNat,BitVec.toNat_ofNat,Nat.mod_eq_of_lt ha,Nat.mod_eq_of_lt hb]
 have:=Nat.and_le_left (n:=a) (m:=b)
 exact U2 (by omega) (by omega)
theorem Qzw(a b:Nat)(ha:a < 18446744073709551616)(hb:b < 18446744073709551616):Zf .u64 (a:Int) (b:Int)=((a ||| b:Nat):Int):=by
 show IntKind.u64.wrap ((BitVec.ofInt 64 (a:Int) ||| BitVec.ofInt 64 (b:Int)).toNat:Int)=_
 rw[BitVec.ofInt_natCast,BitVec.ofInt_natCast,BitVec.toNat_or,BitVec.toNat_ofNat,BitVec.toNat_ofNat,Nat.mod_eq_of_lt ha,Nat.mod_eq_of_lt hb]
 have:=Nat.or_lt_two_pow (n:=64) ha hb
 exact U2 (by omega) (by omega)
theorem Vs{a:Int}(h:0<=a)(k:Nat)(hk:k<=64):Z5 .u64 a (k:Int)=a / 2 ^ k:=by
 show a.fdiv (2 ^ (min (k:Int).toNat 64))=_
 rw[zJ,Nat.min_eq_left hk,Int.fdiv_eq_ediv_of_nonneg _ (Int.pow_nonneg (by decide))]
theorem oV(a:Int)(k:Nat)(hk:k<=64):M1 .u64 a (k:Int)=a * 2 ^ k % 18446744073709551616:=by
 show IntKind.u64.wrap (a * 2 ^ (min (k:Int).toNat 64))=_
 rw[zJ,Nat.min_eq_left hk]
 exact KO _
theorem Dm{a:Int}(h:0<=a)(h2:a < 18446744073709551616):J9 .u64 a 2251799813685247=a % 2251799813685248:=by
 obtain⟨n,rfl⟩:=Aj h
 have:=kD n 2251799813685247 (by omega) (by decide)
 rw[show ((2251799813685247:Nat):Int)=2251799813685247 from rfl] at this
 rw[this,show 2251799813685247=2 ^ 51 - 1 from rfl,Nat.and_two_pow_sub_one_eq_mod]
 omega
theorem kX{a:Int}(h:0<=a)(h2:a < 18446744073709551616):J9 .u64 a 4294967295=a % 4294967296:=by
 obtain⟨n,rfl⟩:=Aj h
 have:=kD n 4294967295 (by omega) (by decide)
 rw[show ((4294967295:Nat):Int)=4294967295 from rfl] at this
 rw[this,show 4294967295=2 ^ 32 - 1 from rfl,Nat.and_two_pow_sub_one_eq_mod]
 omega
theorem Qec{a:Int}(h:0<=a)(h2:a < 18446744073709551616):J9 .u64 a 1=a % 2:=by
 obtain⟨n,rfl⟩:=Aj h
 have:=kD n 1 (by omega) (by decide)
 rw[show ((1:Nat):Int)=1 from rfl] at this
 rw[this,Nat.and_one_is_mod]
 omega
theorem EF{a:Int}(h:0<=a):Z5 .u64 a 51=a / 2251799813685248:=Vs h 51 (by decide)
theorem Gq{a:Int}(h:0<=a):Z5 .u64 a 32=a / 4294967296:=Vs h 32 (by decide)
theorem lE{h l:Int}(h0:0<=h)(h1:h < 2251799813685248)(l0:0<=l)(l1:l < 18446744073709551616):Zf .u64 (M1 .u64 h 13) (Z5 .u64 l 51)=(h * 18446744073709551616+l) / 2251799813685248:=by
 rw[EF l0,show M1 .u64 h 13=_ from oV h 13 (by decide)]
 have e:h * 2 ^ 13 % 18446744073709551616=h * 8192:=by
  rw[show (2:Int) ^ 13=8192 from rfl];omega
 rw[e]
 obtain⟨a,rfl⟩:=Aj h0
 obtain⟨b,rfl⟩:=Aj l0
 have hb:b / 2251799813685248 < 2 ^ 13:=by omega
 have:=Qzw (a * 8192) (b / 2251799813685248) (by omega) (by omega)
 rw[show ((a * 8192:Nat):Int)=(a:Int) * 8192 by omega,show ((b / 2251799813685248:Nat):Int)=(b:Int) / 2251799813685248 by omega] at this
 rw[this]
 have k:=Nat.two_pow_add_eq_or_of_lt hb a
 rw[show a * 8192=2 ^ 13 * a by omega,<-k]
 omega
end Go.EV
namespace Crv
def pw(n:Nat):Nat->Nat->Nat->Nat->Nat
 | 0,_,_,c=>c
 | k+1,a,e,c=>bif e==0 then c else pw n k (a * a % n) (e / 2) (bif e % 2==1 then c * a % n else c)
theorem qY{n:Nat}:∀(k a e c:Nat),e < 2 ^ k->pw n k a e c % n=c * a ^ e % n
 | 0,a,e,c,h=>by
  have:e=0:=by simp at h;omega
  simp[pw,this]
 | k+1,a,e,c,h=>by
  unfold pw
  by_cases h0:e=0
  ·simp[h0]
  rw[show (e==0)=false by simpa using h0,cond_false,qY k _ _ _ (by rw[Nat.pow_succ] at h;omega)]
  have e1:(a * a % n) ^ (e / 2) % n=a ^ (2 * (e / 2)) % n:=by rw[<-Nat.pow_mod,Nat.pow_mul,Nat.pow_two]
  rcases Nat.mod_two_eq_zero_or_one e with h2|h2
  ·rw[h2,show ((0:Nat)==1)=false from rfl,cond_false,Nat.mul_mod,e1,<-Nat.mul_mod,show 2 * (e / 2)=e by omega]
  ·rw[h2,show ((1:Nat)==1)=true from rfl,cond_true,Nat.mul_mod,Nat.mod_mod,e1,<-Nat.mul_mod,Nat.mul_assoc,<-Nat.pow_succ',show (2 * (e / 2)).succ=e by omega]
def qD:Nat:=2 ^ 255 - 19
end Crv
namespace Crv
end Crv
namespace Crv
instance:NeZero qD:=⟨by decide +kernel⟩
abbrev nP:Nat:=qD
def CX(a:Nat):Nat:=pw nP 256 a (nP - 2) 1 % nP
def force{α:Type}(n:Nat)(k:Nat->α):α:=match n with
 | 0=>k 0
 | m+1=>k (m+1)
theorem force_eq{α:Type}(n:Nat)(k:Nat->α):force n k=k n:=by cases n<;>rfl
def lY(a b:Nat):Nat:=(nP - b+a) % nP
def Tm{α:Type}(c a b:Nat)(k:Nat->Nat->α):α:=
 force ((a+b) % nP) λp=>force (lY a b) λm=>force (p * p % nP) λs=>force (m * m % nP) λt=>force (lY s t) λe=>
 force (s * t % nP) λx=>force (e * ((s+e * c % nP) % nP) % nP) λy=>k x y
def Tw{α:Type}(u a b c d:Nat)(k:Nat->Nat->α):α:=
 force ((a+b) % nP) λp=>force (lY a b) λm=>force (lY c d * p % nP) λf=>force ((c+d) % nP * m % nP) λg=>
 force ((f+g) % nP) λh=>force (lY f g) λj=>force (h * h % nP) λx=>force (u * (j * j % nP) % nP) λy=>k x y
def HH(c u:Nat):List Bool->Nat->Nat->Nat->Nat->Nat×Nat
 | [],x,y,_,_=>(x,y)
 | b :: l,x,y,z,w=>bif b then Tm c z w λz2 w2=>Tw u z w x y λx2 y2=>HH c u l x2 y2 z2 w2
  else Tm c x y λx2 y2=>Tw u x y z w λz2 w2=>HH c u l x2 y2 z2 w2
def bits(n:Nat):Nat->List Bool
 | 0=>[]
 | k+1=>(n / 2 ^ k % 2==1) :: bits n k
end Crv
