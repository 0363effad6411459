/- Badges of the reference: the same as the program's. Fingerprints of the reference: the same as the program's. Which handshakes are valid: the referen ..; no conditions. -/
import Derived.Test.YtjdieimefebnfaaGreatDoorR11
import Derived.Test.YtjdieimefebnfaaGreatDoorR14
import Derived.Test.YtjdieimefebnfaaGreatDoorR15
import Derived.Test.YtjdieimefebnfaaGreatDoorR16
import Derived.Test.YtjdieimefebnfaaGreatDoorR9
import Derived.Test.YtjdieimefebnfaaGreatDoorR10
import Derived.KernelRfl
set_option linter.unusedVariables false
set_option linter.unusedSimpArgs false
set_option maxRecDepth 100000
namespace Go.Proofs.YtjdieimefebnfaaGreatDoor
open Go Go.EV
theorem Mx(c:Int):Qy (jA c) (λr=>r=Kr c):=by
 unfold jA;refine Qy.fn ?_;unfold Qkv;refine Ok.n (R:=λr=>r=Kr c) ?_ λr hr=>Ok.d hr;unfold Kr
 repeat' grind [Ok.e,Ok.d]
 all_goals grind
theorem gC(c:Int):(!Kr c&&((c != 46)&&(c != 45)))=!V1 c:=by
 grind [V1,MQ,Kr,bne]
theorem SY(b:Z6):Qy (Qq0 b) (λr=>r=G1 b):=by
 unfold Qq0;refine Qy.fn ?_;unfold Qmv;refine Ok.n (R:=λc=>(c=true->B4 b.fp=false)/\(c=false->1<=b.fp.size/\b.fp.size<=32/\(Kr (QQ b.fp 0)&&Kr (QQ b.fp ((b.fp.size - 1:Nat):Int)))=true)) ?_ λc hc=>?_
 ·refine Ok.e (λh=>Ok.d ⟨λ_=>?_,λh=>(by cases h)⟩) λh=>Ok.e (λh2=>Ok.d ⟨λ_=>?_,λh=>(by cases h)⟩) λh2=>?_
  ·grind [decide_eq_false,B4]
  ·grind [decide_eq_false,B4]
  ·have h0:1<=b.fp.size:=by grind
   have h1:b.fp.size<=32:=by grind
   have e1:Q0 ((b.fp.size:Int) - 1)=((b.fp.size - 1:Nat):Int):=by grind [Z4]
   refine Ok.k (by simp;omega) (Ok.c (Mx _) λr hr=>?_);subst hr;refine Ok.e (λh3=>Ok.d ⟨λ_=>?_,λh=>(by cases h)⟩) λh3=>?_
   ·grind [B4,Kr,QQ]
   ·have h3:Kr (QQ b.fp 0)=true:=by simpa using h3
    rw[e1];grind [Ok.k,Ok.c,Mx,Ok.d,B4,Kr,QQ]
 ·refine Ok.e (λh=>Ok.d ?_) λh=>?_
  ·grind [G1]
  ·obtain⟨h0,h1,h2⟩:=hc.2 h;refine Ok.p (R:=Sum.elim (λ_=>(Q3 b.fp).all V1=false) (λ_=>(Q3 b.fp).all V1=true)) ?_ (λe he=>Ok.d ?_) λe he=>?_
   ·refine Ok.s b.fp.size (by omega) (λk y=>y=(k:Int)/\∀i,i < k->V1 (QQ b.fp (i:Int))=true) (by grind) (λk y hy hk=>?_) λy hy=>?_
    ·obtain⟨rfl,hI⟩:=hy;refine Ok.t (by simp;omega) (Ok.n (R:=λc=>c=!V1 (QQ b.fp (k:Int))) ?_ λc hc=>?_)
     ·grind [Ok.k,Ok.c,Mx,gC,Ok.e,Ok.d]
     ·subst hc;refine Ok.e (λh=>Ok.d ?_) λh=>Ok.d ?_
      ·grind [En,Q3,V1]
      ·refine⟨Z9 hk (by omega),λi hi=>?_⟩;grind
    ·obtain⟨rfl,hI⟩:=hy;grind [Ok.f,Ok.d,En,Q3,V1]
   ·grind [G1,B4,Q3,V1]
   ·have hn:B4 b.fp=true:=by
     grind [decide_eq_true,B4,Q3,V1]
    unfold G1;rw[hn];refine Ok.n (R:=λc=>c=_) ?_ λc hc=>Ok.d hc;simp only[Bool.true_and]
    repeat' first
     | refine Ok.e (λh=>?_) (λh=>?_)
     | refine Ok.d ?_
    all_goals grind
theorem xF(n:Nat)(v:Int):Jh (n+1) v=(v / 256 ^ n % 256) :: Jh n v:=by
 induction n generalizing v with
 | zero=>simp[Jh]
 | succ n ih=>
  grind [Int.ediv_ediv_of_nonneg,Int.pow_succ,Int.mul_comm,Jh]
theorem MP(n:Nat)(hn:n<=8)(v:Int)(h0:0<=v)(h:v < 9223372036854775808):Qy (iM (n:Int) v) (λr=>r=Zi n v):=by
 unfold iM;refine Qy.fn ?_;unfold g83;refine Ok.b (R:=λe=>e=Zi n v) ?_ λe he=>Ok.d he;refine Ok.s n (by omega) (λk y=>y=(v / 256 ^ k,Zi k v,(k:Int))) (by rw[Int.pow_zero,Int.ediv_one];rfl) (λk y hy hk=>?_) λy hy=>?_
 ·subst hy;have hp:(0:Int) < 256 ^ k:=Int.pow_pos (by decide);have hv:0<=v / 256 ^ k:=Int.ediv_nonneg h0 (by omega);have hv2:v / 256 ^ k<=v:=Int.ediv_le_self _ h0;have e1:Qk (Int.tmod (v / 256 ^ k) 256)=v / 256 ^ k % 256:=by rw[B9,Int.tmod_eq_emod_of_nonneg hv];omega
  have e2:Q0 (Int.tdiv (v / 256 ^ k) 256)=v / 256 ^ (k+1):=by
   grind [Int.tdiv_eq_ediv_of_nonneg,Int.pow_succ,Int.ediv_ediv_of_nonneg,Z4]
  refine Ok.t (by simp;omega) (Ok.k ?_ (Ok.d ?_))
  ·simp only[E5,T5,List.length_singleton,zI];omega
  ·show (_,_,_)=(_,_,_);rw[e1,e2,Z9 hk (by omega)]
   have:strOfNums [v / 256 ^ k % 256]++Zi k v=Zi (k+1) v:=by
    unfold Zi;rw[xF,<-T1];rfl
   rw[this]
 ·subst hy;exact Ok.f (by simp) (Ok.d rfl)
theorem AU(b:Z6)(hv:G1 b=true):Qy (Tc b) (λr=>r=K2 b):=by
 obtain⟨h1,h2,h3,h4,h5,h6,h7⟩:=N6 hv;obtain⟨z1,z2⟩:=S6 h1;have hh:bs [102,100]++Zi 1 1=GJ:=by decide
 unfold Tc;refine Qy.fn ?_;unfold g45;refine Ok.c (MP 1 (by decide) 1 (by decide) (by decide)) λr0 e0=>Ok.k ?_ (Ok.c (MP 6 (by decide) b.fP h6 (by omega)) λr1 e1=>Ok.k ?_ (Ok.c (MP 6 (by decide) b.fC h3 (by omega)) λr2 e2=>Ok.k ?_ (Ok.c (MP 6 (by decide) b.fB (by omega) (by omega)) λr3 e3=>Ok.k ?_ (Ok.c (MP 1 (by decide) (b.fp.size:Int) (by omega) (by omega)) λr4 e4=>Ok.k ?_ (Ok.k ?_ (Ok.k ?_ (Ok.d ?_)))))));all_goals subst_vars
 all_goals try simp only[hh,ByteArray.size_append,T5,Ry,zI,show (bs [102,100]).size=2 from rfl,h2]
 iterate 7
  ·omega
 ·rfl
theorem rS{l:List Int}(h:∀c,c∈l->0<=c/\c < 256):Jh l.length (num l)=l:=by
 have key:∀(n:Nat) (l:List Int),l.length=n->(∀c,c∈l->0<=c/\c < 256)->Jh n (num l)=l:=by
  intro n;induction n with
  | zero=>intro l hl _;rw[qg.1 hl];rfl
  | succ n ih=>
   intro l hl hb;have hne:l≠[]:=(by grind);have e:=List.dropLast_concat_getLast hne;rw[<-e,MC];have hc:=hb (l.getLast hne) (List.getLast_mem hne);rw[Jh,show (num l.dropLast * 256+l.getLast hne) / 256=num l.dropLast by omega,show (num l.dropLast * 256+l.getLast hne) % 256=l.getLast hne by omega,ih l.dropLast (by rw[List.length_dropLast];omega) λc hc=>hb c (List.dropLast_subset _ hc)]
 grind
theorem XH{s:ze}{a n:Nat}(h:a+n<=s.size):Zi n (num (Q3 (s.extract a (a+n))))=s.extract a (a+n):=by
 have hl:(Q3 (s.extract a (a+n))).length=n:=by rw[E4,ByteArray.size_extract];omega
 have:=rS (l:=Q3 (s.extract a (a+n))) λc hc=>WT hc;grind [Jg,Zi]
theorem rD{a b c:ze}:(a++b++c).extract a.size (a.size+b.size)=b:=by
 rw[ByteArray.extract_append,ByteArray.extract_append];have e1:a.extract a.size (a.size+b.size)=zg:=by simp_all
 have e2:b.extract (a.size - a.size) (a.size+b.size - a.size)=b:=by
  simp_all
 grind [ByteArray.extract_eq_empty_iff,ByteArray.size_append,ByteArray.empty_append,ByteArray.append_empty,ByteArray.empty]
theorem dY{s:ze}{a b c:Nat}(h1:a<=b)(h2:b<=c):s.extract a b++s.extract b c=s.extract a c:=by
 grind [ByteArray.ext,ByteArray.data_append,ByteArray.data_extract,Nat.min_eq_left,Nat.max_eq_right]
theorem dA{s:ze}(h:okB s=true):K2 (QI s)=s:=by
 unfold okB at h;simp only[zG,zI] at h;obtain⟨h1,h2,h3,h4⟩:=h;have hb:=E9 s 21;have hn:(s.extract 22 (22+Hr s)).size=Hr s:=by simp_all
 have e1:Zi 1 ((s.extract 22 (22+Hr s)).size:Int)=s.extract 21 22:=by
  rw[hn];have:=Qzk (s:=s) (a:=21) (by omega);rw[show ((Hr s:Nat):Int)=QQ s 21 by unfold Hr;omega,<-show num (Q3 (s.extract 21 22))=QQ s 21 from this];exact XH (s:=s) (a:=21) (n:=1) (by omega)
 have n1:Zi 6 (num (Q3 (s.extract 3 9)))=s.extract 3 9:=XH (a:=3) (n:=6) (by omega)
 have n2:Zi 6 (num (Q3 (s.extract 9 15)))=s.extract 9 15:=XH (a:=9) (n:=6) (by omega)
 have n3:Zi 6 (num (Q3 (s.extract 15 21)))=s.extract 15 21:=XH (a:=15) (n:=6) (by omega)
 show GJ++Zi 6 (num (Q3 (s.extract 3 9)))++Zi 6 (num (Q3 (s.extract 9 15)))++Zi 6 (num (Q3 (s.extract 15 21)))++Zi 1 ((s.extract 22 (22+Hr s)).size:Int)++s.extract 22 (22+Hr s)++s.extract (22+Hr s) (54+Hr s)=s;grind [dY,ByteArray.extract_zero_size]
theorem AR{b:Z6}(hv:G1 b=true):okB (K2 b)=true/\QI (K2 b)=b:=by
 obtain⟨h1,h2,h3,h4,h5,h6,h7⟩:=N6 hv;obtain⟨z1,z2⟩:=S6 h1;have hz:=Kk hv;have pick:∀(x y z:ze) (a:Nat),a=x.size->(x++y++z).extract a (a+y.size)=y:=(by grind [rD]);have g3:(K2 b).extract 0 3=GJ:=by
  have:K2 b=zg++GJ++(Zi 6 b.fP++Zi 6 b.fC++Zi 6 b.fB++Zi 1 (b.fp.size:Int)++b.fp++b.fH):=by grind [ByteArray.append_assoc,ByteArray.empty_append,K2]
  rw[this];exact pick _ _ _ 0 rfl
 have gn:(K2 b).extract 3 9=Zi 6 b.fP:=by
  have:K2 b=GJ++Zi 6 b.fP++(Zi 6 b.fC++Zi 6 b.fB++Zi 1 (b.fp.size:Int)++b.fp++b.fH):=by grind [ByteArray.append_assoc,K2]
  rw[this];have:=pick GJ (Zi 6 b.fP) (Zi 6 b.fC++Zi 6 b.fB++Zi 1 (b.fp.size:Int)++b.fp++b.fH) 3 rfl;rwa [T5] at this
 have gf:(K2 b).extract 9 15=Zi 6 b.fC:=by
  grind [ByteArray.append_assoc,ByteArray.size_append,T5,K2,GJ,Zi]
 have gu:(K2 b).extract 15 21=Zi 6 b.fB:=by
  grind [ByteArray.append_assoc,ByteArray.size_append,T5,K2,GJ,Zi]
 have gl:(K2 b).extract 21 22=Zi 1 (b.fp.size:Int):=by
  grind [ByteArray.append_assoc,ByteArray.size_append,T5,K2,GJ,Zi]
 have hN:Hr (K2 b)=b.fp.size:=by
  have h8:=Qzk (s:=K2 b) (a:=21) (by omega);rw[show (K2 b).extract 21 (21+1)=Zi 1 (b.fp.size:Int) from gl] at h8
  have h9:num (Q3 (Zi 1 (b.fp.size:Int)))=(b.fp.size:Int):=by
   unfold Zi;rw[G9 (RD 1 _)];grind [Ci]
  rw[h9] at h8;unfold Hr;grind
 have nb:∀v:Int,0<=v->v < 281474976710656->num (Q3 (Zi 6 v))=v:=λv h0 h=>by
  unfold Zi;rw[G9 (RD 6 _)];grind [Ci]
 have gm:(K2 b).extract 22 (22+b.fp.size)=b.fp:=by
  have:K2 b=(GJ++Zi 6 b.fP++Zi 6 b.fC++Zi 6 b.fB++Zi 1 (b.fp.size:Int))++b.fp++b.fH:=rfl;grind
 have gk:(K2 b).extract (22+b.fp.size) (54+b.fp.size)=b.fH:=by
  have:K2 b=(GJ++Zi 6 b.fP++Zi 6 b.fC++Zi 6 b.fB++Zi 1 (b.fp.size:Int)++b.fp)++b.fH++zg:=by rw[ByteArray.append_empty];rfl
  rw[this];have:=pick (GJ++Zi 6 b.fP++Zi 6 b.fC++Zi 6 b.fB++Zi 1 (b.fp.size:Int)++b.fp) b.fH zg (22+b.fp.size) (by simp only[ByteArray.size_append,T5];rfl);grind
 have e:QI (K2 b)=b:=by
  unfold QI;rw[hN,gm,gk,gn,gf,gu,nb _ h6 (by omega),nb _ h3 (by omega),nb _ (by omega) (by omega)]
 refine⟨?_,e⟩;unfold okB;grind
theorem NW(s:ze):Qy (s69 s) (λr=>r=JL s):=by
 unfold s69;refine Qy.fn ?_;unfold g69;have szs:okB s=true->55<=s.size/\s.size<=86:=λh=>by
  have e:=Kk (b:=QI s) (by simp_all [zG,okB]);rw[dA h] at e;obtain⟨z1,z2⟩:=S6 (N6 (b:=QI s) (by simp_all [zG,okB])).1;omega
 have bad:okB s=false->JL s=(zB,5):=(by grind [JL]);refine Ok.n (R:=λc=>c=decide (s.size < 55\/86 < s.size)) (Ok.e (λh=>Ok.d ?_) λh=>Ok.d ?_) λc hc=>?_
 ·grind
 ·grind
 subst hc;refine Ok.e (λh=>Ok.d ?_) λh=>?_
 ·rw[zI] at h;rw[bad ?_];rfl;grind
 ·rw[decide_eq_false_iff_not] at h;have e0:Q0 ((s.size:Int) - 32)=((s.size - 32:Nat):Int):=by grind [Z4]
  rw[e0];simp only[zR];have hz:∀a b:Nat,a<=b->b<=a+7->(s.extract a b).size<=7:=(by grind [ByteArray.size_extract]);refine Ok.k (by simp;omega) (Ok.c (Xs _ (hz 3 9 (by omega) (by omega))) λr1 e1=>Ok.k (by simp;omega) (Ok.c (Xs _ (hz 9 15 (by omega) (by omega))) λr2 e2=>Ok.k (by simp;omega) (Ok.c (Xs _ (hz 15 21 (by omega) (by omega))) λr3 e3=>Ok.k (by simp;omega) (Ok.k (by simp) ?_))));subst e1 e2 e3;generalize hb:Z6.mk (s.extract 22 (s.size - 32)) (s.extract (s.size - 32) s.size) (num (Q3 (s.extract 9 15))) (num (Q3 (s.extract 15 21))) (num (Q3 (s.extract 3 9)))=b;have hm:s.size=54+Hr s->QI s=b:=(by grind [QI,Hr]);have key:okB s=(G1 b&&decide (K2 b=s)):=by
   cases ho:okB s with
   | true=>
    have h1:=ho;unfold okB at h1;simp only[zG,zI] at h1;grind [dA]
   | false=>
    symm;cases hv:G1 b with
    | false=>rfl
    | true=>
     rw[Bool.true_and];grind [decide_eq_false,AR]
  refine Ok.n (R:=λc=>c=!okB s) ?_ λc hc=>?_
  ·grind [Ok.c,SY,Ok.e,Ok.d,AU,G1]
  ·subst hc;refine Ok.e (λh=>Ok.d ?_) λh=>Ok.d ?_
   ·rw[bad (by simpa using h)];rfl
   simp_all [zG,zI,okB,JL]
theorem uG:((List.range 256).all λn=>decide ((g81 (n:Int)).run=some (Xh (n:Int))))=true:=by kernel_rfl
theorem Vy(c:Int)(h:0<=c/\c < 256):Qy (s81 c) (λr=>r=Xh c):=by
 unfold s81;refine Qy.fn ?_;obtain⟨n,rfl⟩:=Int.eq_ofNat_of_zero_le h.1;have:=zJ.1 uG n (by simp;omega);exact⟨_,by grind,rfl⟩
def Yn(c:Int):Int:=if 48<=c/\c<=57 then c - 48 else if 65<=c/\c<=70 then c - 55 else -1
theorem VA:((List.range 256).all λn=>(Qmy (n:Int)).run==some (Yn (n:Int)))=true:=by kernel_rfl
theorem AH(c:Int)(h:0<=c/\c < 256):Qy (oP c) (λr=>r=Yn c):=by
 unfold oP;refine Qy.fn ?_;obtain⟨n,rfl⟩:=Int.eq_ofNat_of_zero_le h.1;have:=zJ.1 VA n (by simp;omega);exact⟨_,by grind,rfl⟩
theorem dS(c:Int):decide (Yn c < 0)=!HQ c:=by
 unfold Yn HQ;grind
theorem mN:((List.range 256).all λa=>(List.range 256).all λb=>!(HQ (a:Int)&&HQ (b:Int)) || (CK (16 * Yn (a:Int)+Yn (b:Int))==(a:Int)&&(Cs (16 * Yn (a:Int)+Yn (b:Int))==(b:Int)&&decide (16 * Yn (a:Int)+Yn (b:Int) < 256/\0<=16 * Yn (a:Int)+Yn (b:Int)))))=true:=by kernel_rfl
theorem CM{a b:Int}(ha:0<=a/\a < 256)(hb:0<=b/\b < 256)(h1:HQ a=true)(h2:HQ b=true):CK (16 * Yn a+Yn b)=a/\Cs (16 * Yn a+Yn b)=b/\0<=16 * Yn a+Yn b/\16 * Yn a+Yn b < 256:=by
 obtain⟨n,rfl⟩:=Int.eq_ofNat_of_zero_le ha.1;obtain⟨m,rfl⟩:=Int.eq_ofNat_of_zero_le hb.1;have:=zJ.1 (zJ.1 mN n (by simp;omega)) m (by simp;omega);grind
theorem uX(c:Int):(Xh c).size=2:=by unfold Xh;rw[E5];rfl
theorem LP(l:List Int):(HU l).length=3 * l.length - 1:=by
 induction l with
 | nil=>rfl
 | cons c l ih=>
  cases l with
  | nil=>rfl
  | cons d l=>
   grind [List.length_cons,HU]
theorem Md(s:ze)(hs:s.size<=100000):Qy (s42 s) (λr=>r=W9 s):=by
 unfold s42;refine Qy.fn ?_;unfold g42;refine Ok.b (R:=λe=>e=W9 s) ?_ λe he=>Ok.d he;refine Ok.s s.size (by omega) (λk y=>y=(V7++strOfNums (HU ((Q3 s).take k)),(k:Int))) rfl (λk y hy hk=>?_) λy hy=>?_
 ·subst hy;have hlen:((Q3 s).take k).length=k:=by rw[wZ,E4];omega
  have hz:(V7++strOfNums (HU ((Q3 s).take k))).size<=8+3 * k:=by
   rw[ByteArray.size_append,E5,LP,hlen];show 8+_<=_;omega
  have hnil:((Q3 s).take k=[])↔k=0:=by grind
  refine Ok.t (by simp;omega) (Ok.b (R:=λe=>e=V7++strOfNums (if (Q3 s).take k=[] then [] else HU ((Q3 s).take k)++[58])/\e.size<=9+3 * k) ?_ λe he=>?_)
  ·refine Ok.e (λh=>Ok.k ?_ (Ok.d ?_)) λh=>Ok.d ?_
   ·rw[zI];show (V7++strOfNums (HU ((Q3 s).take k))).size+1<=_;omega
   ·have h:0 < k:=by simpa using h
    rw[if_neg (λe=>by rw[hnil] at e;omega)];refine⟨by rw[T1,<-ByteArray.append_assoc];rfl,?_⟩;rw[ByteArray.size_append];show (V7++strOfNums (HU ((Q3 s).take k))).size+1<=_;omega
   ·have h:k=0:=by grind
    rw[if_pos (hnil.2 h)];subst h;exact⟨rfl,Nat.le_trans hz (by omega)⟩
  ·obtain⟨rfl,hz2⟩:=he;refine Ok.k (by simp;omega) (Ok.c (Vy _ (E9 _ _)) λr hr=>?_);subst hr;refine Ok.k ?_ (Ok.d ?_)
   ·rw[zI,uX];omega
   ·show (_,_)=(_,_);rw[Z9 hk (by omega),List.take_add_one,P9 hk]
    show (_,_)=(V7++strOfNums (HU ((Q3 s).take k++[QQ s (k:Int)])),_);rw[jH,T1,<-ByteArray.append_assoc];rfl
 ·subst hy;refine Ok.f (by simp) (Ok.d ?_);rw[List.take_of_length_le (by rw[E4];omega)];rfl
def EY(p:ze)(i:Nat):Int:=16 * Yn (QQ p ((8+3 * i:Nat):Int))+Yn (QQ p ((9+3 * i:Nat):Int))
def KH(p:ze)(i:Nat):Bool:=HQ (QQ p ((8+3 * i:Nat):Int))&&HQ (QQ p ((9+3 * i:Nat):Int))
theorem LS:∀(l:List Int) (i:Nat) (c:Int),l[i]?=some c->(HU l)[3 * i]?=some (CK c)/\(HU l)[3 * i+1]?=some (Cs c)/\(i+1 < l.length->(HU l)[3 * i+2]?=some 58)
 | [],i,c,h=>by simp at h
 | [x],i,c,h=>by
  cases i with
  | zero=>simp at h;subst h;exact⟨rfl,rfl,λh=>by simp at h⟩
  | succ i=>simp at h
 | x :: y :: l,i,c,h=>by
  cases i with
  | zero=>simp at h;subst h;exact⟨rfl,rfl,λ_=>rfl⟩
  | succ i=>
   have ih:=LS (y :: l) i c (by simpa using h);grind [HU]
theorem Tb{p:ze}(hp:p.size=103)(hx:∀i,i < 32->KH p i=true):decide (W9 (strOfNums ((List.range 32).map (EY p)))=p)=YP p:=by
 have hx1:∀i,i < 32->HQ (QQ p ((8+3 * i:Nat):Int))=true/\HQ (QQ p ((9+3 * i:Nat):Int))=true:=λi hi=>by
  simp_all [zG,KH]
 have two:=λi hi=>CM (E9 p ((8+3 * i:Nat):Int)) (E9 p ((9+3 * i:Nat):Int)) (hx1 i hi).1 (hx1 i hi).2
 have ho:Q3 (strOfNums ((List.range 32).map (EY p)))=(List.range 32).map (EY p):=G9 λc hc=>by
  obtain⟨i,hi,rfl⟩:=zM.1 hc;have:=two i (by simpa using hi);exact⟨this.2.2.1,this.2.2.2⟩
 generalize hV:(List.range 32).map (EY p)=V at ho;have hVl:V.length=32:=by grind
 have hVg:∀i,i < 32->V[i]?=some (EY p i):=(by grind)
 have hrng:∀c,c∈HU V->0<=c/\c < 256:=by
  have gen:∀l:List Int,∀c,c∈HU l->0<=c/\c < 256:=by
   intro l;induction l with
   | nil=>grind [HU]
   | cons x l ih=>
    cases l with
    | nil=>
     intro c hc;simp only[HU,zV,wa,or_false] at hc;rcases hc with rfl|rfl<;>exact E9 _ _
    | cons y l=>
     intro c hc;simp only[HU,zV] at hc;rcases hc with rfl|rfl|rfl|hc
     ·exact E9 _ _
     ·exact E9 _ _
     ·decide
     grind
  exact gen V
 have hS:Q3 (W9 (strOfNums V))=Q3 V7++HU V:=by simp_all [UF,G9,W9]
 have hSz:(W9 (strOfNums V)).size=103:=by
  rw[<-E4,hS,wV,LP,hVl];rfl
 have at0:∀i:Nat,i < 8->QQ (W9 (strOfNums V)) (i:Int)=QQ V7 (i:Int):=λi hi=>by
  have h1:=P9 (s:=W9 (strOfNums V)) (k:=i) (by omega);rw[hS,wo (by rw[E4];exact hi),P9 (by exact hi)] at h1;grind
 have at8:∀i:Nat,i < 95->some (QQ (W9 (strOfNums V)) ((8+i:Nat):Int))=(HU V)[i]?:=λi hi=>by
  rw[<-P9 (s:=W9 (strOfNums V)) (k:=8+i) (by omega),hS,ww (by rw[E4];show 8<=_;omega)];rw[E4,show 8+i - V7.size=i from by show 8+i - 8=i;omega]
 have pt:∀i:Nat,i < 95->(QQ (W9 (strOfNums V)) ((8+i:Nat):Int)=QQ p ((8+i:Nat):Int)↔Vp i (QQ p ((8+i:Nat):Int))=true):=λi hi=>by
  have h1:=at8 i hi;obtain⟨g0,g1,g2⟩:=LS V (i / 3) (EY p (i / 3)) (hVg (i / 3) (by omega));obtain⟨t0,t1,_⟩:=two (i / 3) (by omega)
  have hx2:=hx1 (i / 3) (by omega);unfold Vp;by_cases c2:i % 3=2
  ·grind
  ·rw[if_neg c2];by_cases c0:i % 3=0
   ·rw[show 3 * (i / 3)=i by omega] at g0 t0 hx2;rw[g0] at h1;rw[wh h1];have:CK (EY p (i / 3))=QQ p ((8+i:Nat):Int):=by grind [EY]
    grind
   ·have hi3:i=3 * (i / 3)+1:=by omega
    grind [Option.some.inj,Cs,EY,QQ]
 rw[Bool.eq_iff_iff,zI];unfold YP;rw[we hp,Bool.true_and,zG,zI,zJ];constructor
 ·intro h;refine⟨?_,(by grind)⟩;refine Gf (by rw[ByteArray.size_extract];show min 8 p.size - 0=8;omega) λi hi=>?_;have hi:i < 8:=by rw[ByteArray.size_extract] at hi;omega
  rw[XK (by omega) (by omega),zY,<-at0 i hi,h]
 ·intro ⟨h1,h2⟩;refine Gf (by omega) λi hi=>?_;by_cases h8:i < 8
  ·rw[at0 i h8,<-h1,XK (by omega) (by omega),zY]
  ·have:=(pt (i - 8) (by omega)).2 (h2 (i - 8) (by simp;omega));rwa [show 8+(i - 8)=i by omega] at this
theorem SZ(p:ze)(hs:p.size<=1000000):Qy (Qq7 p) (λr=>r=YP p):=by
 unfold Qq7;refine Qy.fn ?_;unfold Qez;refine Ok.e (λh=>Ok.d ?_) λh=>?_
 ·grind [decide_eq_false,YP]
 ·have hp:p.size=103:=by grind
  refine Ok.p (R:=Sum.elim (λ_=>YP p=false) (λe=>e=strOfNums ((List.range 32).map (EY p))/\∀i,i < 32->KH p i=true)) ?_ (λe he=>Ok.d he.symm) λe he=>?_
  ·refine Ok.s 32 (by decide) (λk y=>y=(strOfNums ((List.range k).map (EY p)),(k:Int))/\∀i,i < k->KH p i=true) ⟨rfl,(by grind)⟩ (λk y hy hk=>?_) λy hy=>?_
   ·obtain⟨rfl,hI⟩:=hy;have e3:Q0 ((3:Int) * (k:Int))=((3 * k:Nat):Int):=by grind [Z4]
    have e8:Q0 ((8:Int)+((3 * k:Nat):Int))=((8+3 * k:Nat):Int):=by grind [Z4]
    have e9:Q0 ((9:Int)+((3 * k:Nat):Int))=((9+3 * k:Nat):Int):=by grind [Z4]
    refine Ok.t (by simp;omega) ?_;rw[e3,e8,e9];have b1:=E9 p ((8+3 * k:Nat):Int);have b2:=E9 p ((9+3 * k:Nat):Int);refine Ok.k (by simp;omega) (Ok.c (AH _ b1) λr1 h1=>Ok.k (by simp;omega) (Ok.c (AH _ b2) λr2 h2=>?_));subst h1 h2;refine Ok.n (R:=λc=>c=!KH p k) ?_ λc hc=>?_
    ·grind [Bool.not_and,dS,Ok.e,Ok.d,KH]
    ·subst hc;refine Ok.e (λh=>Ok.d ?_) λh=>?_
     ·have h:KH p k=false:=by simpa using h
      show YP p=false;cases hpr:YP p with
      | false=>rfl
      | true=>
       unfold YP at hpr;simp only[zG,zI,zJ] at hpr;have q1:=hpr.2.2 (3 * k) (by simp;omega);have q2:=hpr.2.2 (3 * k+1) (by simp;omega);unfold Vp at q1 q2;rw[if_neg (by omega)] at q1 q2;grind [KH]
     ·have h:KH p k=true:=by simpa using h
      have h':=h;unfold KH at h';rw[zG] at h';obtain⟨_,_,v0,v1⟩:=CM b1 b2 h'.1 h'.2
      have ev:Qk (Q0 ((Q0 ((16:Int) * Yn (QQ p ((8+3 * k:Nat):Int))))+Yn (QQ p ((9+3 * k:Nat):Int))))=EY p k:=by
       grind [Z4,B9,Yn,QQ,EY]
      rw[ev];refine Ok.k ?_ (Ok.d ⟨?_,λi hi=>?_⟩)
      ·rw[E5,E5,zI];simp;omega
      ·rw[Z9 hk (by decide),List.range_succ,wO,T1];rfl
      grind
   ·obtain⟨rfl,hI⟩:=hy;exact Ok.f rfl (Ok.d ⟨rfl,hI⟩)
  ·obtain⟨rfl,hI⟩:=he;grind [Ok.c,Md,E5,Ok.d,Tb]
theorem Qh1{t:R6}(h:t=R6.mk EK J1):cZ t:=by subst h;exact⟨by kernel_rfl,rfl⟩
theorem AJ(b:Z6)(hv:G1 b=true):Qy (s44 b) (λr=>r=W9 (YN (K2 b))):=by
 have hz:=Kk hv;obtain⟨n1,n2⟩:=S6 (N6 hv).1;unfold s44;refine Qy.fn ?_;unfold g44;refine Ok.c TS λt ht=>Ok.c (AU b hv) λr hr=>?_;subst hr;refine Ok.c (Qqr t (Qh1 ht) (K2 b) (by omega)) λr hr=>?_;subst hr;exact Ok.c (Md _ (by rw[Uc];decide)) λr hr=>Ok.d hr
theorem AY(s:ze):Qy (Xz s) (λr=>r=okB s):=by
 grind [oF,Qy.fn,Ok.c,NW,Ok.d,Xz,Qej,JL,okB]
def Cq(p:K7)(k:Int):Bool:=if k=0 then HH p.fA&&(HH p.fQ&&HH p.fh) else if k=1 then ZA p.fA&&(ZA p.fQ&&HH p.fh) else ZA p.fA&&(ZA p.fQ&&okB p.fh)
theorem TB(p:K7)(k:Int):Qy (vK p k) (λr=>r=Cq p k):=by
 unfold vK;refine Qy.fn ?_;unfold Qmz Cq;refine Ok.e (λh=>Ok.d ?_) λh=>Ok.e (λh2=>?_) λh2=>?_
 ·rw[if_pos (by simpa using h),Bool.and_true];rfl
 ·rw[if_neg (by simpa using h),if_pos (by simpa using h2)];refine Ok.n (R:=λc=>c=_) ?_ λc hc=>Ok.d hc;rw[<-int32,<-int32];exact J4 λ_=>J4 λ_=>Ok.d rfl
 ·rw[if_neg (by simpa using h),if_neg (by simpa using h2)];refine Ok.n (R:=λc=>c=_) ?_ λc hc=>Ok.d hc;rw[<-int32,<-int32];exact J4 λ_=>J4 (by grind [Ok.c,AY,Ok.d])
theorem TC(s:Q2)(k:Int):Qy (vW s k) (λr=>r=V6 s k):=by
 unfold vW;refine Qy.fn ?_;unfold Qmq V6;refine Ok.e (λh=>Ok.d ?_) λh=>?_
 ·rw[if_pos (by simpa using h),F9,Bool.eq_iff_iff];simp
 ·rw[if_neg (by simpa using h)];refine Ok.n (R:=λc=>c=_) ?_ λc hc=>Ok.d hc;refine Ok.e (λh2=>?_) λh2=>Ok.d ?_
  ·obtain⟨n,hn⟩:=NT (l:=s.fM) (by rw[F9] at h2;simp at h2;omega);rw[hn];refine Ok.r rfl rfl (Ok.c (SQ n) λr hr=>?_);show Ok _ (λc=>c=(B3 n&&(n.fw==k&&n.fX==Q0 (s.fm - 1))));rw[<-hr];exact J4 λ_=>Ok.r rfl rfl (J4 λ_=>Ok.r rfl rfl (Ok.d rfl))
  grind [F9]
def CS(s:Q2)(least most told known last:Int)(timer:Bool):Bool:=decide (least<=s.fm)&&(decide (s.fm<=most)&&((s.fD.size:Int)==told&&(timer==decide (0<=s.fy.fE)&&(P1 s known&&V6 s last))))
theorem Nv(s:Q2)(k:Int)(hk:k=0\/k=1\/k=2):(Cq s.fj k&&(((s.fF.size:Int)==32)==(k==2)&&!(HH s.fF==(k==2))))=P1 s k:=by
 have e0:HH s.fF=decide (s.fF.size=0):=by unfold HH;simp_all
 unfold Cq P1;rw[int32];rcases hk with rfl|rfl|rfl
 ·simp only[if_true];grind [Bool.and_assoc,decide_eq_false,ZA]
 ·simp only[show ¬(1:Int)=0 by decide,if_true,if_false];grind [Bool.and_assoc,decide_eq_false,ZA]
 ·simp only[show ¬(2:Int)=0 by decide,show ¬(2:Int)=1 by decide,if_false];grind [decide_eq_false,ZA]
theorem Ff(s:Q2)(least most told known last:Int)(timer:Bool)(ht:0<=told)(hk:known=0\/known=1\/known=2):Qy (Xq s least most told known (known==2) last timer) (λr=>r=CS s least most told known last timer):=by
 unfold Xq;refine Qy.fn ?_;unfold Qeq CS;refine Ok.n (R:=λc=>c=_) ?_ λc hc=>Ok.d hc;refine J4 λ_=>J4 λ_=>?_;rw[if_neg (show ¬(0:Int) > told by omega)];refine J4 λ_=>Ok.c (TB s.fj known) λr hr=>?_;rw[<-Nv s known hk,<-hr,show (timer==decide (0<=s.fy.fE)&&(r&&(((s.fF.size:Int)==32)==(known==2)&&!(HH s.fF==(known==2)))&&V6 s last))=(r&&((((s.fF.size:Int)==32)==(known==2))&&(!(HH s.fF==(known==2))&&(V6 s last&&(decide (0<=s.fy.fE)==timer))))) from by
  generalize (((s.fF.size:Int)==32)==(known==2))=A;generalize (!(HH s.fF==(known==2)))=B;generalize V6 s last=C;generalize decide (0<=s.fy.fE)=D;cases A<;>cases B<;>cases C<;>cases D<;>cases r<;>cases timer<;>rfl]
 refine J4 λ_=>J4 λ_=>J4 λ_=>Ok.c (TC s last) λr2 hr2=>?_;rw[<-hr2];refine J4 λ_=>Ok.c (R:=λr=>r=decide (0<=s.fy.fE)) ⟨_,rfl,rfl⟩ (by grind [Ok.d])
def bR(s:Q2):Bool:=s.ga==2 || (s.ga==4 || (s.ga==6 || (s.ga==9 || s.ga==10)))
def oQ(s:Q2):Bool:=
 bif s.fo==7 then CS s 0 8 0 0 0 false&&bR s else
 bif s.ga != 0 then false else
 bif s.fo==1&&s.fq==1 then CS s 0 0 0 0 0 false else
 bif s.fo==1&&s.fm==0 then CS s 0 0 0 0 0 false else
 bif s.fo==1 then CS s 1 6 0 0 2 false else
 bif s.fo==2&&s.fq==1 then CS s 1 1 0 0 1 true else
 bif s.fo==3&&s.fq==1 then CS s 2 7 100 0 1 true else
 bif s.fo==4&&!(s.fq==1) then CS s 1 7 (168+(s.fh.size:Int)) 1 3 true else
 bif s.fo==5&&s.fq==1 then CS s 3 8 (204+((s.fh.size:Int)+(s.fj.fh.size:Int))) 2 4 true else
 bif s.fo==6&&s.fq==1 then CS s 3 8 (240+((s.fh.size:Int)+(s.fj.fh.size:Int))) 2 0 false else
 bif s.fo==6 then CS s 2 8 (240+((s.fh.size:Int)+(s.fj.fh.size:Int))) 2 5 false else false
theorem Cc(s:Q2)(x:H6):F1 s x=(s.fq==x.Jb&&(s.fo==x.Yf&&CS s x.ZK x.Ur (Uj s x) x.QS x.KW x.UB)):=rfl
theorem yK(s:Q2)(h:s.fq=1\/s.fq=2):oQ s=(DP s&&Y7.any (F1 s)):=by
 unfold DP oQ Y7;simp only[List.any_cons,List.any_nil,Bool.or_false,Cc,Uj];by_cases h7:s.fo=7
 ·rw[h7];grind [Bool.and_comm,bR]
 ·rw[if_neg h7];by_cases hw:s.ga=0
  rotate_left
  ·grind
  rw[hw];by_cases h1:s.fo=1
  ·grind [decide_eq_false,CS]
  grind
theorem gS(s:Q2)(h1:s.fq≠1)(h2:s.fq≠2):Y7.any (F1 s)=false:=by
 simp_all [Cc,Y7]
theorem I8{P:Program}{G:zi}{a:Nat}{c d e:Bool}{y:T P G Bool}(he:e=!c)(h:c=false->Ok y (λr=>r=!d)):Ok (.br a c (.done true) y) (λr=>r=!(e&&d)):=by
 subst he;exact Dd h
theorem XJ{P:Program}{G:zi}{a:Nat}{c d:Bool}{y:T P G Bool}(h:c=false->Ok y (λr=>r=d)):Ok (.br a c (.done true) y) (λr=>r=(c || d)):=by
 simp_all [Ok.e,Ok.d]
def eV(s:Q2):Bool:=decide (0<=s.fk)&&(decide (s.fk<=1099511627776)&&(ZA s.gc&&(ZA s.fZ&&(ZA s.fA&&(UQ s&&(okB s.fh&&(decide (s.fJ.length<=8)&&(decide (0<=s.fm)&&(decide (s.fm<=8)&&Zb s.fy)))))))))
theorem n32(s:ze):ZA s=!((s.size:Int) != 32):=by rw[<-int32];simp[bne]
theorem oD(s:Q2)(h:Y7.any (F1 s)=true):0<=s.fm/\s.fm<=8:=by
 obtain⟨x,hx,h1⟩:=List.any_eq_true.1 h;have hb:(Y7.all λx=>decide (0<=x.ZK/\x.Ur<=8))=true:=by decide
 have hb:=zJ.1 hb x hx;unfold F1 at h1;grind
theorem Sv(s:Q2)(h:Sm s):Qy (s63 s) (λr=>r=QZ s):=by
 unfold s63;refine Qy.fn ?_;unfold g63;have tail:∀a1 a2 a3 a4 a5:Nat,Ok (T.call a1 (Xz s.fh) [] [] (λr=>.br a2 (!r) (.done true) (.br a3 (decide ((8:Int) < (I3 Z7 s.fJ))) (.done true) (.br a4 (decide (s.fm < 0)) (.done true) (.br a5 (decide ((8:Int) < s.fm)) (.done true) (.cl 2079 (Aw s.fy) λr2=>.done (!r2)))))):TT Bool) (λr=>r=!(okB s.fh&&(decide (s.fJ.length<=8)&&(decide (0<=s.fm)&&(decide (s.fm<=8)&&Zb s.fy))))):=λa1 a2 a3 a4 a5=>by
  refine Ok.c (AY _) λr hr=>?_;rw[<-hr];refine I8 (by simp) λ_=>I8 (by rw[F9,Qzn,Bool.not_not,decide_eq_decide];omega) λ_=>I8 (by grind) λ_=>I8 (by grind) (by grind [Ok.c,kQ,Ok.d])
 refine Ok.n (R:=λc=>c=!(decide (s.fq=1\/s.fq=2)&&eV s)) ?_ λc hc=>?_
 ·unfold eV UQ;by_cases h1:s.fq=1
  ·rw[we (Or.inl h1),Bool.true_and];rw[if_neg (by omega)];simp only[h1];refine Ok.f rfl (I8 (by grind) λ_=>I8 (by grind) λ_=>I8 (n32 _) λ_=>I8 (n32 _) λ_=>I8 (n32 _) λ_=>Ok.t rfl (I8 (by unfold HH;simp) λ_=>Ok.f rfl (tail _ _ _ _ _)))
  ·by_cases h2:s.fq=2
   ·rw[we (Or.inr h2),Bool.true_and];rw[if_pos h2];simp only[h2];refine Ok.t rfl (Ok.f rfl (I8 (by grind) λ_=>I8 (by grind) λ_=>I8 (n32 _) λ_=>I8 (n32 _) λ_=>I8 (n32 _) λ_=>Ok.f rfl (Ok.t rfl (I8 (n32 _) λ_=>tail _ _ _ _ _))))
   ·rw[show decide (s.fq=1\/s.fq=2)=false from qe (λq=>q.elim h1 h2),Bool.false_and];exact Ok.t (by simpa using h1) (Ok.t (by simpa using h2) (Ok.d rfl))
 subst hc;have eq0:QZ s=((decide (s.fq=1\/s.fq=2)&&eV s)&&(s.fJ.all YP&&oQ s)):=by
  unfold QZ Re eV Mm;by_cases hs:s.fq=1\/s.fq=2
  ·rw[we hs,yK s hs,Bool.true_and];unfold V0;cases ha:Y7.any (F1 s) with
   | false=>simp
   | true=>
    obtain⟨q1,q2⟩:=oD s ha;grind
  grind [decide_eq_false,gS]
 rw[eq0];cases hF:(decide (s.fq=1\/s.fq=2)&&eV s) with
 | false=>exact Ok.t rfl (Ok.d rfl)
 | true=>
  refine Ok.f rfl ?_;rw[Bool.true_and];have zb:(s.fh.size:Int)<=100000:=by have:=h.bd;omega
  have zp:(s.fj.fh.size:Int)<=100000:=by have:=h.pb;omega
  have w1:Q0 ((168:Int)+(s.fh.size:Int))=168+(s.fh.size:Int):=Z4 (by omega) (by omega)
  have w2:Q0 ((s.fh.size:Int)+(s.fj.fh.size:Int))=(s.fh.size:Int)+(s.fj.fh.size:Int):=Z4 (by omega) (by omega)
  have w3:Q0 ((204:Int)+((s.fh.size:Int)+(s.fj.fh.size:Int)))=204+((s.fh.size:Int)+(s.fj.fh.size:Int)):=Z4 (by omega) (by omega)
  have w4:Q0 ((240:Int)+((s.fh.size:Int)+(s.fj.fh.size:Int)))=240+((s.fh.size:Int)+(s.fj.fh.size:Int)):=Z4 (by omega) (by omega);refine Ok.p (R:=Sum.elim (λ_=>s.fJ.all YP=false) (λ_=>s.fJ.all YP=true)) ?_ (by grind [Ok.d,YP]) λe he=>?_
  ·have hl:=h.pr;refine Ok.s s.fJ.length (by omega) (λk y=>y=(k:Int)/\((s.fJ.take k).any λx=>!YP x)=false) ⟨rfl,rfl⟩ (λk y hy hk=>?_) λy hy=>?_
   ·obtain⟨rfl,h1⟩:=hy;obtain⟨x,hx,hx'⟩:=N3 (l:=s.fJ) (k:=k) hk;have h2:=Jk hx' h1;refine Ok.t (by grind [F9]) (Ok.r (by simp) hx (Ok.c (SZ x (by have:=h.ps x (zX hx');omega)) λr hr=>?_));grind [Ok.e,Ok.d,B7,Xv,Z9,YP]
   ·obtain⟨rfl,h1⟩:=hy;grind [List.take_length,Ok.f,F9,Ok.d,Xv,YP]
  rw[show s.fJ.all YP=true from he,Bool.true_and];unfold oQ;have as0:=λ(a b c e:Int) (t:Bool) (hc:0<=c)=>Ff s a b c 0 e t hc (.inl rfl);have as1:=λ(a b c e:Int) (t:Bool) (hc:0<=c)=>Ff s a b c 1 e t hc (.inr (.inl rfl));have as2:=λ(a b c e:Int) (t:Bool) (hc:0<=c)=>Ff s a b c 2 e t hc (.inr (.inr rfl));have bz:(0:Int)<=(s.fh.size:Int):=by omega
  have pz:(0:Int)<=(s.fj.fh.size:Int):=by omega
  refine Ok.e (λh1=>?_) λh1=>?_
  ·rw[h1,cond_true];refine Ok.n (R:=λc=>c=_) ?_ λc hc=>Ok.d hc;refine Ok.c (as0 0 8 0 0 false (by decide)) λr hr=>?_;rw[<-hr];unfold bR;exact J4 λ_=>XJ λ_=>XJ λ_=>XJ λ_=>XJ λ_=>Ok.d rfl
  rw[h1,cond_false];refine Ok.e (λh2=>Ok.d (by rw[h2];rfl)) λh2=>?_;rw[h2,cond_false];refine Ok.n (R:=λc=>c=(s.fo==1&&s.fq==1)) (J4 λ_=>Ok.d rfl) λc hc=>?_;rw[<-hc];refine Ok.e (λh3=>?_) λh3=>?_
  ·rw[h3,cond_true];exact Ok.c (as0 0 0 0 0 false (by decide)) λr hr=>Ok.d hr
  rw[h3,cond_false];refine Ok.n (R:=λc=>c=(s.fo==1&&s.fm==0)) (J4 λ_=>Ok.d rfl) λc hc=>?_;rw[<-hc];refine Ok.e (λh4=>?_) λh4=>?_
  ·rw[h4,cond_true];exact Ok.c (as0 0 0 0 0 false (by decide)) λr hr=>Ok.d hr
  rw[h4,cond_false];refine Ok.e (λh5=>?_) λh5=>?_
  ·rw[h5,cond_true];exact Ok.c (as0 1 6 0 2 false (by decide)) λr hr=>Ok.d hr
  rw[h5,cond_false];refine Ok.n (R:=λc=>c=(s.fo==2&&s.fq==1)) (J4 λ_=>Ok.d rfl) λc hc=>?_;rw[<-hc];refine Ok.e (λh6=>?_) λh6=>?_
  ·rw[h6,cond_true];exact Ok.c (as0 1 1 0 1 true (by decide)) λr hr=>Ok.d hr
  rw[h6,cond_false];refine Ok.n (R:=λc=>c=(s.fo==3&&s.fq==1)) (J4 λ_=>Ok.d rfl) λc hc=>?_;rw[<-hc];refine Ok.e (λh6=>?_) λh6=>?_
  ·rw[h6,cond_true];exact Ok.c (as0 2 7 100 1 true (by decide)) λr hr=>Ok.d hr
  rw[h6,cond_false];refine Ok.n (R:=λc=>c=(s.fo==4&&!(s.fq==1))) (J4 λ_=>Ok.d rfl) λc hc=>?_;rw[<-hc];refine Ok.e (λh6=>?_) λh6=>?_
  ·rw[h6,cond_true,w1];exact Ok.c (as1 1 7 _ 3 true (by omega)) λr hr=>Ok.d hr
  rw[h6,cond_false];refine Ok.n (R:=λc=>c=(s.fo==5&&s.fq==1)) (J4 λ_=>Ok.d rfl) λc hc=>?_;rw[<-hc];refine Ok.e (λh6=>?_) λh6=>?_
  ·rw[h6,cond_true,w2,w3];exact Ok.c (as2 3 8 _ 4 true (by omega)) λr hr=>Ok.d hr
  rw[h6,cond_false];refine Ok.n (R:=λc=>c=(s.fo==6&&s.fq==1)) (J4 λ_=>Ok.d rfl) λc hc=>?_;rw[<-hc];refine Ok.e (λh6=>?_) λh6=>?_
  ·rw[h6,cond_true,w2,w4];exact Ok.c (as2 3 8 _ 0 false (by omega)) λr hr=>Ok.d hr
  rw[h6,cond_false];refine Ok.e (λh6=>?_) λh6=>?_
  ·rw[h6,cond_true,w2,w4];exact Ok.c (as2 2 8 _ 5 false (by omega)) λr hr=>Ok.d hr
  rw[h6,cond_false];exact Ok.d rfl
end Go.Proofs.YtjdieimefebnfaaGreatDoor
namespace Go.Proofs.YtjdieimefebnfaaGreatDoor
open Go Go.EV Crv
def vF(f:Nat->Int):Nat->Int
 | 0=>0
 | n+1=>vF f n+f n * 65536 ^ n
theorem E1(f:Nat->Int)(n:Nat):vF f (n+1)=vF f n+f n * 65536 ^ n:=rfl
theorem Mk(n:Nat):(0:Int) < 65536 ^ n:=Int.pow_pos (by decide)
theorem Fm(n:Nat):(65536:Int) ^ (n+1)=65536 * 65536 ^ n:=by grind
theorem ZR{f g:Nat->Int}:∀{n:Nat},(∀i,i < n->f i=g i)->vF f n=vF g n
 | 0,_=>rfl
 | n+1,h=>by rw[E1,E1,ZR λi hi=>h i (by omega),h n (by omega)]
theorem X3(f:Nat->Int)(j:Nat)(x:Int):U6 f j x j=x:=by unfold U6;simp
theorem D5{f:Nat->Int}{j i:Nat}{x:Int}(h:i≠j):U6 f j x i=f i:=by grind [U6]
theorem KF(f:Nat->Int)(x:Int){j:Nat}:∀{n:Nat},j < n->vF (U6 f j x) n=vF f n+(x - f j) * 65536 ^ j
 | n+1,h=>by
  rw[E1,E1];rcases wT j n with h1|h1
  ·rw[KF f x h1,D5 (by omega)];omega
  ·obtain rfl:j=n:=by omega
   grind [ZR,D5,X3,Int.sub_mul,vF,U6]
theorem LX(f g:Nat->Int):∀n,vF (λi=>f i+g i) n=vF f n+vF g n
 | 0=>rfl
 | n+1=>by rw[E1,E1,E1,LX f g n,Int.add_mul];omega
theorem BE(c:Int)(f:Nat->Int):∀n,vF (λi=>c * f i) n=c * vF f n
 | 0=>by show (0:Int)=c * 0;omega
 | n+1=>by rw[E1,E1,BE c f n,Int.mul_add,Int.mul_assoc]
theorem Uz(f:Nat->Int)(m:Nat):∀n,vF f (m+n)=vF f m+65536 ^ m * vF (λi=>f (m+i)) n
 | 0=>by grind [vF]
 | n+1=>by
  show vF f (m+n)+f (m+n) * 65536 ^ (m+n)=_;rw[Uz f m n,E1,Int.pow_add,Int.mul_add];grind
theorem V9{f:Nat->Int}:∀{n:Nat},(∀i,i < n->0<=f i)->0<=vF f n
 | 0,_=>by show (0:Int)<=0;omega
 | n+1,h=>by
  rw[E1];have h1:=V9 λi (hi:i < n)=>h i (by omega);have h2:=Int.mul_nonneg (h n (by omega)) (Int.le_of_lt (Mk n));omega
theorem OY{f:Nat->Int}:∀{n:Nat},(∀i,i < n->0<=f i/\f i < 65536)->vF f n < 65536 ^ n
 | 0,_=>by show (0:Int) < 1;omega
 | n+1,h=>by
  rw[E1,Fm];have h1:=OY λi (hi:i < n)=>h i (by omega);have h2:=Int.mul_le_mul_of_nonneg_right (show f n<=65535 by have:=h n (by omega);omega) (Int.le_of_lt (Mk n));omega
theorem yJ{f:Nat->Int}(n:Nat)(h:∀i,i < n+1->0<=f i):f 0<=vF f (n+1):=by
 have e:=Uz f 1 n;rw[Nat.add_comm 1 n] at e
 have h2:=Int.mul_nonneg (Int.le_of_lt (Mk 1)) (V9 (f:=λi=>f (1+i)) (n:=n) λi hi=>h _ (by omega));grind [vF]
def H3(f:Nat->Int):Prop:=∀i,i < 16->0<=f i/\f i < 65536
def nF(f:Nat->Int):Nat:=md (vF f 16)
theorem w16:(65536:Int) ^ 16=115792089237316195423570985008687907853269984665640564039457584007913129639936:=by decide
theorem Qow(f:Nat->Int):nF f < nP:=mK _
theorem UR{f:Nat->Int}(h:H3 f):0<=vF f 16/\vF f 16 < 115792089237316195423570985008687907853269984665640564039457584007913129639936:=⟨V9 λi hi=>(h i hi).1,by rw[<-w16];exact OY h⟩
theorem vat{k m:Nat}(h:k < m):(bif decide (0<=(k:Int))&&decide ((k:Int) < (m:Int)) then some () else none)=some ():=by
 grind
theorem Qx4(f:Nat->Int){k:Nat}(h:k < 16):(Y6 f)[0+(k:Int).toNat]?=some (f k):=by rw[zR,zY,MW,if_pos h]
theorem UL{ρ:Type}{Q:ρ->Prop}{a a2:Nat}{o i:Operand}{d b k:Nat}{f:Nat->Int}{K:Int->TT ρ}(h:k < 16)(hk:Ok (K (f k)) Q):Ok (.Qq a (Mv o i d b f (k:Int)) λ_=>.row a2 Q5 (Y6 f) (0+(k:Int).toNat) true K) Q:=
 Ok.o (r:=()) (vat (m:=16) h) (Ok.r rfl (Qx4 f h) hk)
theorem car{c x:Int}(h0:0<=c+x)(h1:c+x < 9223372036854775808):Q0 (c+x)=c+x/\Int.tmod (Q0 (c+x)) 65536=(c+x) % 65536/\Q0 (Int.tdiv (Q0 (c+x)) 65536)=(c+x) / 65536:=by
 have e:=Z4 (n:=c+x) (by omega) (by omega)
 have e1:Int.tmod (c+x) 65536=(c+x) % 65536:=(by grind)
 have e2:Int.tdiv (c+x) 65536=(c+x) / 65536:=(by grind);rw[e,e1,e2];exact⟨rfl,rfl,Z4 (by omega) (by omega)⟩
def L6(f:Nat->Int)(c0 B:Int)(k:Nat)(h:Nat->Int)(c:Int):Prop:=(∀i,i < k->0<=h i/\h i < 65536)/\(∀i,k<=i->h i=f i)/\vF h k+c * 65536 ^ k=vF f k+c0/\0<=c/\c<=B
theorem RZ(f:Nat->Int){c0 B:Int}(h:0<=c0/\c0<=B):L6 f c0 B 0 f c0:=⟨λi hi=>by omega,λ_ _=>rfl,by grind,h.1,h.2⟩
theorem Ei{f:Nat->Int}{c0 B:Int}{k:Nat}{h:Nat->Int}{c:Int}(H:L6 f c0 B k h c)(hf:0<=f k/\f k<=B)(hB:1<=B):L6 f c0 B (k+1) (U6 h k ((c+f k) % 65536)) ((c+f k) / 65536):=by
 obtain⟨h1,h2,h3,h4,h5⟩:=H;refine⟨λi hi=>?_,λi hi=>?_,?_,by omega,by omega⟩
 ·grind [X3,D5]
 ·grind [D5]
 ·have ec:vF (U6 h k ((c+f k) % 65536)) k=vF h k:=ZR (by grind [D5]);grind [E1,X3,Fm,Int.add_mul]
def RS:Nat->(Nat->Int)->Prop
 | 0,f=>∀i,i < 16->0<=f i/\f i<=4503599627370496
 | 1,f=>(∀i,i < 16->0<=f i/\f i<=576460752303423488)/\vF f 16<=115792089237316195423570985008687907853269984665640564039458160468665433063424
 | 2,f=>(∀i,i < 16->0<=f i/\f i<=576460752303423488)/\vF f 16 < 115792089237316195423570985008687907853269984665640564039457584007913129639974
 | _,f=>H3 f
theorem Qd7{r:Nat}{f:Nat->Int}(h:RS r f):∀i,i < 16->0<=f i/\f i<=576460752303423488:=λi hi=>by
 match r,h with
 | 0,h=>have:=h i hi;omega
 | 1,h=>exact h.1 i hi
 | 2,h=>exact h.1 i hi
 | n+3,h=>have:0<=f i/\f i < 65536:=h i hi;omega
theorem pZ{r:Nat}{f h:Nat->Int}{c:Int}(hf:RS r f)(H:L6 f 0 576460752303423488 16 h c):RS (r+1) (U6 h 0 (h 0+38 * c))/\md (vF (U6 h 0 (h 0+38 * c)) 16)=md (vF f 16)/\h 0+38 * c < 9223372036854775808/\0<=h 0+38 * c:=by
 obtain⟨h1,h2,h3,h4,h5⟩:=H;have hl:H3 h:=h1;have hv:=UR hl;have h0:=h1 0 (by decide);rw[w16] at h3;have e:vF (U6 h 0 (h 0+38 * c)) 16=vF h 16+38 * c:=by
  grind [KF,vF]
 have em:md (vF (U6 h 0 (h 0+38 * c)) 16)=md (vF f 16):=by
  rw[e,<-Wd _ (2 * c)];grind
 have hb:∀C:Int,65536<=C->h 0+38 * c<=C->∀i,i < 16->0<=U6 h 0 (h 0+38 * c) i/\U6 h 0 (h 0+38 * c) i<=C:=(by grind [X3,D5])
 match r,hf with
 | 0,hf=>
  have c1:c<=4503599627370496 * 2:=by
   have hu:∀n,n<=16->vF f n<=4503599627370496 * (2 * 65536 ^ n):=λn=>by
    induction n with
    | zero=>intro _;show (0:Int)<=_;omega
    | succ n ih=>
     intro hn;have:=Int.mul_le_mul_of_nonneg_right (hf n (by omega)).2 (Int.le_of_lt (Mk n));grind [E1,Fm,Mk]
   grind
  exact⟨⟨hb _ (by decide) (by omega),by rw[e];omega⟩,em,by omega,by omega⟩
 | 1,hf=>
  have c1:c<=1:=by have:=hf.2;omega
  exact⟨⟨hb _ (by decide) (by omega),by grind⟩,em,by omega,by omega⟩
 | 2,hf=>
  have c1:c<=1:=by have:=hf.2;omega
  have hf1:=yJ 15 λi hi=>(h1 i hi).1;refine⟨λi hi=>?_,em,by omega,by omega⟩;by_cases ei:i=0
  ·subst ei;rw[X3];have:=hf.2;grind
  grind [D5]
 | n+3,hf=>
  have hfv:=UR hf
  have c1:c=0:=by omega
  refine⟨λi hi=>?_,em,by omega,by omega⟩;grind [X3,D5]
theorem Qdy{p q:Prop}[Decidable p][Decidable q](h:p↔q)(x y:Int):(if p then x else y)=if q then x else y:=by
 grind
def lg(l:List Int)(i:Nat):Int:=l.getD i 0
theorem Ky{l:List Int}{k:Nat}(h:k < l.length):l[k]?=some (lg l k):=by grind [List.getElem?_eq_getElem,lg]
theorem FI{l:List Int}{k:Nat}(h:l.length<=k):lg l k=0:=by grind [List.getElem?_eq_none,lg]
theorem kK(l:List Int)(hn:16<=l.length/\l.length<=31)(hl:∀i,0<=lg l i/\lg l i<=70368744177664):Qy (TZ l) (λr=>H3 r/\nF r=md (vF (lg l) l.length)):=by
 unfold TZ;refine Qy.fn ?_;unfold Qkt;refine Ok.o rfl (Ok.o rfl (Ok.b (R:=λe=>∀i,i < 16->e i=lg l i+38 * lg l (16+i)) ?_ λe he=>?_))
 ·refine Ok.s l.length (by omega) (λk y=>(∀i,i < 16->y.1 i=(if i < k then lg l i else 0)+38 * (if 16+i < k then lg l (16+i) else 0))/\y.2=(k:Int)) (by grind) (λk y hy hk=>?_) λy hy=>?_
  ·obtain⟨f,i⟩:=y;obtain⟨h1,rfl⟩:(∀i,i < 16->f i=(if i < k then lg l i else 0)+38 * (if 16+i < k then lg l (16+i) else 0))/\i=(k:Int):=hy;refine Ok.t (by grind [Jn,decide_eq_true]) (Ok.e (λhc=>?_) λhc=>?_)
   ·have hc:(k:Int) < 16:=by simpa using hc
    have hk16:k < 16:=by omega
    refine UL hk16 (Ok.r (by simp) (by rw[zR];exact Ky hk) (UL hk16 (Ok.re (Ok.d ⟨λj hj=>?_,Z9 hk (by omega)⟩))));have hlk:=hl k;have hfk:=h1 k hk16;rw[if_neg (by omega),if_neg (by omega)] at hfk;rw[zR,zY];show U6 f k (Q0 (f k+lg l k)) j=_;rw[hfk,Z4 (by omega) (by omega)];by_cases e:j=k
    ·subst e;rw[X3,if_pos (by omega),if_neg (by omega)];omega
    ·rw[D5 e,h1 j hj];grind
   ·have hc:16<=(k:Int):=by simpa using hc
    have e16:Q0 ((k:Int) - 16)=((k - 16:Nat):Int):=by grind [Z4]
    have hk16:k - 16 < 16:=by omega
    simp only[e16];refine UL hk16 (Ok.r (by simp) (by rw[zR];exact Ky hk) (UL hk16 (Ok.re (Ok.d ⟨λj hj=>?_,Z9 hk (by omega)⟩))));have hlk:=hl k;have hlk2:=hl (k - 16);have hfk:=h1 (k - 16) hk16;rw[if_pos (by omega),if_neg (by omega)] at hfk;rw[zR,zY];show U6 f (k - 16) (Q0 (f (k - 16)+Q0 ((38:Int) * lg l k))) j=_;rw[hfk,Z4 (n:=38 * lg l k) (by omega) (by omega),Z4 (by omega) (by omega)];by_cases e:j=k - 16
    ·subst e;rw[X3,if_pos (by omega),if_pos (by omega),show 16+(k - 16)=k by omega];omega
    ·rw[D5 e,h1 j hj];grind
  ·obtain⟨f,i⟩:=y;obtain⟨h1,rfl⟩:(∀i,i < 16->f i=(if i < l.length then lg l i else 0)+38 * (if 16+i < l.length then lg l (16+i) else 0))/\i=((l.length:Nat):Int):=hy;refine Ok.f (by grind [Jn,decide_eq_false]) (Ok.d λi hi=>?_);show f i=_;rw[h1 i hi,if_pos (by omega)];by_cases e:16+i < l.length
   ·rw[if_pos e]
   simp_all [if_neg,FI]
 ·have hv:md (vF e 16)=md (vF (lg l) l.length):=by
   have e1:vF e 16=vF (lg l) 16+38 * vF (λi=>lg l (16+i)) 16:=by
    rw[<-BE,<-LX];exact ZR he
   have e2:vF (lg l) l.length=vF (lg l) 32:=by
    have:=Uz (lg l) l.length (32 - l.length);rw[show l.length+(32 - l.length)=32 by omega] at this
    have z:∀n,vF (λi=>lg l (l.length+i)) n=0:=λn=>by
     induction n with
     | zero=>rfl
     | succ n ih=>grind [E1,FI]
    grind
   have e3:vF (lg l) 32=vF (lg l) 16+65536 ^ 16 * vF (λi=>lg l (16+i)) 16:=Uz (lg l) 16 16;rw[e2,e3,w16,e1,<-Wd _ (2 * vF (λi=>lg l (16+i)) 16)];congr 1;omega
  have h0:RS 0 e:=λi hi=>by
   grind
  refine Ok.b (R:=λr=>H3 r/\md (vF r 16)=md (vF e 16)) ?_ λr hr=>Ok.o rfl (Ok.o rfl (Ok.d ⟨hr.1,hr.2.trans hv⟩));refine Ok.s 3 (by decide) (λr y=>(RS r y.1/\md (vF y.1 16)=md (vF e 16))/\y.2=(r:Int)) ⟨⟨h0,rfl⟩,rfl⟩ (λr y hy hr=>?_) λy hy=>?_
  ·obtain⟨f,i⟩:=y;obtain⟨⟨h1,h2⟩,rfl⟩:(RS r f/\md (vF f 16)=md (vF e 16))/\i=(r:Int):=hy;have hle:=Qd7 h1;refine Ok.t (by grind) (Ok.b (R:=λq=>L6 f 0 576460752303423488 16 q.1 q.2) ?_ λq hq=>?_)
   ·refine Ok.s 16 (by decide) (λk y=>L6 f 0 576460752303423488 k y.1 y.2.1/\y.2.2=(k:Int)) ⟨RZ f ⟨by decide,by decide⟩,rfl⟩ (λk y hy hk=>?_) λy hy=>?_
    ·obtain⟨h,c,i⟩:=y;obtain⟨H,rfl⟩:L6 f 0 576460752303423488 k h c/\i=(k:Int):=hy;have e1:=H.2.1 k (zN _);have hc:=H.2.2.2;have hfk:=hle k hk;refine Ok.t (we (show (k:Int) < 16 by omega)) (UL hk (UL hk (Ok.re (Ok.d ⟨?_,Z9 hk (by decide)⟩))));obtain⟨c1,c2,c3⟩:=car (c:=c) (x:=h k) (by rw[e1];omega) (by rw[e1];omega);show L6 f 0 576460752303423488 (k+1) (U6 h (0+(k:Int).toNat) (Int.tmod (Q0 (c+h k)) 65536)) (Q0 (Int.tdiv (Q0 (c+h k)) 65536));rw[c2,c3,e1,zR,zY];exact Ei H hfk (by decide)
    ·obtain⟨h,c,i⟩:=y;obtain⟨H,rfl⟩:L6 f 0 576460752303423488 16 h c/\i=((16:Nat):Int):=hy;exact Ok.f rfl (Ok.d H)
   ·obtain⟨k1,k2,k3,k4⟩:=pZ h1 hq;obtain⟨h,c⟩:=q;have hc:=hq.2.2.2;refine Ok.o rfl (Ok.r rfl (x:=h 0) rfl (Ok.o rfl (Ok.r rfl (x:=h 0) rfl (Ok.re (Ok.d ⟨?_,Z9 hr (by decide)⟩)))));show RS (r+1) (U6 h 0 (Q0 (h 0+Q0 ((38:Int) * c))))/\md (vF (U6 h 0 (Q0 (h 0+Q0 ((38:Int) * c)))) 16)=md (vF e 16)
    change 0<=c/\c<=576460752303423488 at hc
    change h 0+38 * c < 9223372036854775808 at k3
    change 0<=h 0+38 * c at k4
    have hh:0<=h 0:=(hq.1 0 (by decide)).1;rw[Z4 (n:=38 * c) (by omega) (by omega),Z4 (n:=h 0+38 * c) (by omega) (by omega)];exact⟨k1,k2.trans h2⟩
  ·obtain⟨f,i⟩:=y;obtain⟨⟨h1,h2⟩,rfl⟩:(RS 3 f/\md (vF f 16)=md (vF e 16))/\i=((3:Nat):Int):=hy;exact Ok.f rfl (Ok.d ⟨h1,h2⟩)
theorem yY(f g:Nat->Int):∀n,vF (λi=>f i - g i) n=vF f n - vF g n
 | 0=>rfl
 | n+1=>by rw[E1,E1,E1,yY f g n,Int.sub_mul];omega
theorem LD:∀n,vF (λ_=>0) n=0
 | 0=>rfl
 | n+1=>by rw[E1,LD n,Int.zero_mul];rfl
theorem Iy{l:List Int}{j:Nat}{x:Int}(h:j < l.length):lg (l.set j x)=U6 (lg l) j x:=by
 funext i;unfold lg U6;grind
theorem mD(n i:Nat):lg (List.replicate n 0) i=0:=by
 grind [lg]
theorem NK(e:List Int)(h:e.length=16)(hl:∀i,i < 16->0<=lg e i/\lg e i<=70368744177664):Qy (TZ (e.take 16)) (λr=>H3 r/\nF r=md (vF (lg e) 16)):=by
 grind [List.take_of_length_le,kK,FI]
theorem NJ(a b:Nat->Int)(ha:H3 a)(hb:H3 b):Qy (PV a b) (λr=>H3 r/\nF r=(nF a+nF b) % nP):=by
 unfold PV;refine Qy.fn ?_;unfold Qms;refine Ok.o rfl (Ok.o rfl (Ok.o rfl (Ok.o rfl (Ok.b (R:=λe=>e.length=16/\∀i,i < 16->lg e i=a i+b i) ?_ λe he=>?_))))
 ·refine Ok.s 16 (by decide) (λk y=>(y.1.length=16/\∀i,i < k->lg y.1 i=a i+b i)/\y.2=(k:Int)) (by grind) (λk y hy hk=>?_) λy hy=>?_
  ·obtain⟨l,i⟩:=y;obtain⟨⟨h1,h2⟩,rfl⟩:(l.length=16/\∀i,i < k->lg l i=a i+b i)/\i=(k:Int):=hy;have hak:=ha k hk;have hbk:=hb k hk;refine Ok.t (by grind) (UL hk (UL hk (Ok.k (by simp;omega) (Ok.r rfl (x:=lg l k) (by rw[zR,zY];grind [Ky]) (Ok.re (Ok.d ⟨⟨?_,λj hj=>?_⟩,Z9 hk (by decide)⟩))))))
   ·grind
   ·show lg (l.set (0+(k:Int).toNat) (Q0 (a k+b k))) j=_;rw[zR,zY,Iy (by omega),Z4 (by omega) (by omega)];grind [X3,D5]
  ·obtain⟨l,i⟩:=y;obtain⟨h1,rfl⟩:(l.length=16/\∀i,i < 16->lg l i=a i+b i)/\i=((16:Nat):Int):=hy;exact Ok.f rfl (Ok.d h1)
 ·refine Ok.v (NK e he.1 λi hi=>?_) λr hr=>Ok.d ⟨hr.1,?_⟩
  ·have:=ha i hi;have:=hb i hi;grind
  ·have ev:vF (lg e) 16=vF a 16+vF b 16:=by rw[<-LX];exact ZR he.2
   rw[hr.2,ev,mM];rfl
def dP(i:Nat):Int:=if i=0 then 130996 else 131070
theorem Qjr:vF dP 16=57896044618658097711785492504343953926634992332820282019728792003956564819949 * 4:=by decide +kernel
theorem NH(a b:Nat->Int)(ha:H3 a)(hb:H3 b):Qy (PT a b) (λr=>H3 r/\nF r=iK (nF a) (nF b)):=by
 unfold PT;refine Qy.fn ?_;unfold Qmp;refine Ok.o rfl (Ok.o rfl (Ok.o rfl (Ok.o rfl (Ok.b (R:=λe=>e.length=16/\∀i,i < 16->lg e i=a i - b i+131070) ?_ λe he=>?_))))
 ·refine Ok.s 16 (by decide) (λk y=>(y.1.length=16/\∀i,i < k->lg y.1 i=a i - b i+131070)/\y.2=(k:Int)) (by grind) (λk y hy hk=>?_) λy hy=>?_
  ·obtain⟨l,i⟩:=y;obtain⟨⟨h1,h2⟩,rfl⟩:(l.length=16/\∀i,i < k->lg l i=a i - b i+131070)/\i=(k:Int):=hy;have hak:=ha k hk;have hbk:=hb k hk;refine Ok.t (by grind) (UL hk (UL hk (Ok.k (by simp;omega) (Ok.r rfl (x:=lg l k) (by rw[zR,zY];grind [Ky]) (Ok.re (Ok.d ⟨⟨?_,λj hj=>?_⟩,Z9 hk (by decide)⟩))))))
   ·grind
   ·show lg (l.set (0+(k:Int).toNat) (Q0 (Q0 (a k - b k)+131070))) j=_;rw[zR,zY,Iy (by omega),Z4 (n:=a k - b k) (by omega) (by omega),Z4 (by omega) (by omega)];grind [X3,D5]
  ·obtain⟨l,i⟩:=y;obtain⟨h1,rfl⟩:(l.length=16/\∀i,i < 16->lg l i=a i - b i+131070)/\i=((16:Nat):Int):=hy;exact Ok.f rfl (Ok.d h1)
 ·obtain⟨h1,h2⟩:=he;have hx:e[0]?=some (lg e 0):=Ky (by omega);have h20:=h2 0 (by decide);have ha0:=ha 0 (by decide);have hb0:=hb 0 (by decide);have hs:∀i,i < 16->lg (e.set 0 (Q0 (lg e 0 - 74))) i=a i+(dP i - b i):=λi hi=>by
   rw[Iy (by omega),Z4 (by omega) (by omega)];unfold dP;by_cases ei:i=0
   ·subst ei;rw[X3,if_pos rfl];omega
   ·rw[D5 ei,if_neg ei,h2 i hi];omega
  refine Ok.r rfl hx (Ok.r rfl hx (Ok.re (Ok.v (NK _ (by grind) λi hi=>?_) λr hr=>Ok.d ⟨hr.1,?_⟩)))
  ·have:=ha i hi;have:=hb i hi;grind [dP]
  ·have ev:vF (lg (e.set 0 (Q0 (lg e 0 - 74)))) 16=vF a 16 - vF b 16+57896044618658097711785492504343953926634992332820282019728792003956564819949 * 4:=by
    have e1:vF (lg (e.set 0 (Q0 (lg e 0 - 74)))) 16=vF a 16+vF (λi=>dP i - b i) 16:=by rw[<-LX];exact ZR hs
    rw[e1,yY,Qjr];omega
   rw[hr.2,ev,Wd,mU];rfl
theorem Uo(a b:Nat->Int)(ha:H3 a)(hb:H3 b):Qy (Mh a b) (λr=>H3 r/\nF r=nF a * nF b % nP):=by
 unfold Mh;refine Qy.fn ?_;unfold Qmr;let Inv:Nat->Nat->List Int->Prop:=λi k l=>(l.length=31/\∀j,0<=lg l j/\lg l j<=((16 * i+k:Nat):Int) * 4294967296)/\vF (lg l) 31=vF a i * vF b 16+a i * 65536 ^ i * vF b k;refine Ok.o rfl (Ok.o rfl (Ok.o rfl (Ok.o rfl (Ok.b (R:=λe=>Inv 16 0 e) ?_ λe he=>?_))))
 ·refine Ok.s 16 (by decide) (λi y=>Inv i 0 y.1/\y.2=(i:Int)) ⟨⟨⟨rfl,(by grind [mD])⟩,?_⟩,rfl⟩ (λi y hy hi=>?_) λy hy=>?_
  ·simp_all [ZR,mD,LD,Int.zero_mul,Int.mul_zero,vF,lg,List.replicate,trans]
  ·obtain⟨l0,i'⟩:=y;obtain⟨h0,rfl⟩:Inv i 0 l0/\i'=(i:Int):=hy;refine Ok.t (by grind) (Ok.b (R:=λe=>Inv i 16 e) ?_ λe he=>?_)
   ·refine Ok.s 16 (by decide) (λk y=>Inv i k y.1/\y.2=(k:Int)) ⟨h0,rfl⟩ (λk y hy hk=>?_) λy hy=>?_
    ·obtain⟨l,k'⟩:=y;obtain⟨⟨⟨h1,h2⟩,h3⟩,rfl⟩:Inv i k l/\k'=(k:Int):=hy;have eik:Q0 ((i:Int)+(k:Int))=((i+k:Nat):Int):=by grind [Z4]
     have hai:=ha i hi;have hbk:=hb k hk
     have hm:0<=a i * b k/\a i * b k<=65535 * 65535:=⟨Int.mul_nonneg hai.1 hbk.1,Int.mul_le_mul (by omega) (by omega) hbk.1 (by decide)⟩
     have hlk:=h2 (i+k)
     have hx:l[0+(((i+k:Nat):Int)).toNat]?=some (lg l (i+k)):=by rw[zR,zY];exact Ky (by omega)
     refine Ok.t (by grind) ?_;simp only[eik];refine Ok.k (by simp;omega) (Ok.r rfl hx (UL hi (UL hk (Ok.k (by simp;omega) (Ok.r rfl hx (Ok.re (Ok.d ⟨?_,Z9 hk (by decide)⟩)))))));have hb16:((16 * i+k:Nat):Int)<=256:=by omega
     have ew:Q0 (lg l (i+k)+Q0 (a i * b k))=lg l (i+k)+a i * b k:=by grind [Z4]
     show Inv i (k+1) (l.set (0+(((i+k:Nat):Int)).toNat) (Q0 (lg l (i+k)+Q0 (a i * b k))));rw[ew,zR,zY];refine⟨⟨by grind,λj=>?_⟩,?_⟩
     ·rw[Iy (by omega)];grind [X3,D5]
     ·rw[Iy (by omega),KF _ _ (by omega),h3,show vF b (k+1)=vF b k+b k * 65536 ^ k from rfl,Int.pow_add];grind
    ·obtain⟨l,k'⟩:=y;obtain⟨h1,rfl⟩:Inv i 16 l/\k'=((16:Nat):Int):=hy;exact Ok.f rfl (Ok.d h1)
   ·obtain⟨⟨h1,h2⟩,h3⟩:=he;refine Ok.d ⟨⟨⟨h1,λj=>?_⟩,?_⟩,Z9 hi (by decide)⟩
    ·grind
    ·show vF (lg e) 31=vF a (i+1) * vF b 16+a (i+1) * 65536 ^ (i+1) * 0;rw[h3,show vF a (i+1)=vF a i+a i * 65536 ^ i from rfl,Int.mul_zero,Int.add_zero,Int.add_mul]
  ·obtain⟨l,i'⟩:=y;obtain⟨h0,rfl⟩:Inv 16 0 l/\i'=((16:Nat):Int):=hy;exact Ok.f rfl (Ok.d h0)
 ·obtain⟨⟨h1,h2⟩,h3⟩:=he;refine Ok.v (R:=λr=>H3 r/\nF r=md (vF (lg e) 31)) ?_ λr hr=>Ok.d ⟨hr.1,?_⟩
  ·grind [List.take_of_length_le,kK]
  ·rw[hr.2,h3];show md (vF a 16 * vF b 16+a 16 * 65536 ^ 16 * 0)=_;rw[Int.mul_zero,Int.add_zero,mW];rfl
theorem Av(n:Int)(h:0<=n/\n < 4294967296):Qy (Sq n) (λr=>H3 r/\vF r 16=n):=by
 unfold Sq;refine Qy.fn ?_;unfold Qmb;have e1:Int.tmod n 65536=n % 65536:=(by grind);have e2:Q0 (Int.tdiv n 65536)=n / 65536:=by grind [Int.tdiv_eq_ediv_of_nonneg,Z4]
 refine Ok.o rfl (Ok.o rfl (Ok.o rfl (Ok.o rfl (Ok.r rfl (x:=0) rfl (Ok.re (Ok.o rfl (Ok.o rfl (Ok.d ?_))))))));show H3 (U6 (U6 (λ_=>0) 0 (Int.tmod n 65536)) 1 (Q0 (Int.tdiv n 65536)))/\vF (U6 (U6 (λ_=>0) 0 (Int.tmod n 65536)) 1 (Q0 (Int.tdiv n 65536))) 16=n;rw[e1,e2];refine⟨λi hi=>?_,?_⟩
 ·grind [X3,D5]
 ·rw[KF _ _ (by decide),KF _ _ (by decide),LD];show 0+(n % 65536 - 0) * 1+(n / 65536 - 0) * 65536=n;omega
theorem Qxr:∀i:Fin 255,(nP - 2) / 2 ^ i.val % 2=if i.val=2\/i.val=4 then 0 else 1:=by decide +kernel
theorem Qqb(a:Nat->Int)(ha:H3 a):Qy (vB a) (λr=>H3 r/\nF r=FG (nF a)):=by
 unfold vB;refine Qy.fn ?_;unfold Qmg;refine Ok.o rfl (Ok.o rfl (Ok.c (Av 1 ⟨by decide,by decide⟩) λone h1=>Ok.o rfl (Ok.o rfl (Ok.b (R:=λe=>H3 e/\nF e=FG (nF a)) ?_ λe he=>Ok.o rfl (Ok.o rfl (Ok.d he))))));refine Ok.s 255 (by decide) (λk y=>(H3 y.1/\∃n,n=(nP - 2) / 2 ^ (255 - k)/\nF y.1=nF a ^ n % nP)/\y.2=254 - (k:Int)) ⟨⟨h1.1,0,by decide +kernel,?_⟩,rfl⟩ (λk y hy hk=>?_) λy hy=>?_
 ·show md (vF one 16)=_;rw[h1.2,Nat.pow_zero];decide +kernel
 ·obtain⟨x,i⟩:=y;obtain⟨⟨hx,n,hn,h2⟩,rfl⟩:(H3 x/\∃n,n=(nP - 2) / 2 ^ (255 - k)/\nF x=nF a ^ n % nP)/\i=254 - (k:Int):=hy;have hd:(nP - 2) / 2 ^ (255 - (k+1))=2 * n+(nP - 2) / 2 ^ (254 - k) % 2:=by
   rw[hn,show 255 - k=(254 - k)+1 by omega,Nat.pow_succ,<-Nat.div_div_eq_div_mul,show 255 - (k+1)=254 - k by omega,Nat.add_comm,Nat.mod_add_div]
  have hb:=Qxr ⟨254 - k,by omega⟩
  change (nP - 2) / 2 ^ (254 - k) % 2=if 254 - k=2\/254 - k=4 then 0 else 1 at hb
  have ew:Q0 (254 - (k:Int) - 1)=254 - ((k+1:Nat):Int):=by grind [Z4]
  refine Ok.t (by grind) (Ok.o rfl (Ok.o rfl (Ok.c (Uo x x hx hx) λq hq=>Ok.o rfl ?_)));have hq2:nF q=nF a ^ (2 * n) % nP:=by rw[hq.2,h2,lL]
  refine Ok.n (R:=λc=>c=!decide (254 - k=2\/254 - k=4)) (Ok.e (λhc=>Ok.d ?_) λhc=>Ok.d ?_) λc hc=>?_
  ·grind
  ·grind
  ·refine Ok.e (λh=>?_) λh=>Ok.d ⟨⟨hq.1,2 * n,?_,hq2⟩,ew⟩
   ·rw[hc] at h;have h:¬(254 - k=2\/254 - k=4):=by simpa using h
    rw[if_neg h] at hb;refine Ok.o rfl (Ok.o rfl (Ok.c (Uo q a hq.1 ha) λr hr=>Ok.o rfl (Ok.d ⟨⟨hr.1,2 * n+1,?_,?_⟩,ew⟩)))
    ·rw[hd,hb]
    grind [Nt]
   grind
 ·obtain⟨x,i⟩:=y;obtain⟨⟨hx,n,hn,h2⟩,rfl⟩:(H3 x/\∃n,n=(nP - 2) / 2 ^ (255 - 255)/\nF x=nF a ^ n % nP)/\i=254 - ((255:Nat):Int):=hy;refine Ok.f rfl (Ok.d ⟨hx,?_⟩);show nF x=_;unfold FG;rw[OO _ _ _ _ (by decide +kernel),Nat.one_mul,h2,hn,Nat.sub_self,Nat.pow_zero,Nat.div_one]
theorem Ct(f:Nat->Nat):∀n,((II f (2 * n):Nat):Int)=vF (λi=>((f (2 * i):Nat):Int)+256 * ((f (2 * i+1):Nat):Int)) n
 | 0=>rfl
 | n+1=>by
  have e:II f (2 * (n+1))=II f (2 * n)+f (2 * n) * 256 ^ (2 * n)+f (2 * n+1) * 256 ^ (2 * n+1):=rfl
  have p1:(256:Nat) ^ (2 * n)=65536 ^ n:=by rw[Nat.pow_mul]
  rw[e,E1,<-Ct f n,Nat.pow_succ,p1];grind
theorem gQ(s:ze)(hs:s.size=32):Qy (vT s) (λr=>H3 r/\vF r 16=((Yl s % 2 ^ 255:Nat):Int)):=by
 unfold vT;refine Qy.fn ?_;unfold Qmc;let g:Nat->Int:=λi=>((on s (2 * i):Nat):Int)+256 * ((on s (2 * i+1):Nat):Int);have hg:∀i,0<=g i/\g i < 65536:=(by grind [Ux,on]);refine Ok.o rfl (Ok.o rfl (Ok.b (R:=λe=>∀i,i < 16->e i=g i) ?_ λe he=>?_))
 ·refine Ok.s 16 (by decide) (λk y=>(∀i,i < k->y.1 i=g i)/\y.2=(k:Int)) (by grind) (λk y hy hk=>?_) λy hy=>?_
  ·obtain⟨f,i⟩:=y;obtain⟨h1,rfl⟩:(∀i,i < k->f i=g i)/\i=(k:Int):=hy;have e2:Q0 ((2:Int) * (k:Int))=((2 * k:Nat):Int):=by grind [Z4]
   have e3:Q0 (((2 * k:Nat):Int)+1)=((2 * k+1:Nat):Int):=by grind [Z4]
   refine Ok.t (by grind) ?_;simp only[e2,e3,WU];refine Ok.k (by grind) (Ok.k (by grind) (UL hk (Ok.re (Ok.d ⟨λj hj=>?_,Z9 hk (by decide)⟩))));show U6 f (0+(k:Int).toNat) (Q0 (Q0 ((on s (2 * k):Nat):Int)+Q0 ((256:Int) * Q0 ((on s (2 * k+1):Nat):Int)))) j=_;have:=Ux s (2 * k);have:=Ux s (2 * k+1);rw[zR,zY,Z4 (n:=((on s (2 * k):Nat):Int)) (by omega) (by omega),Z4 (n:=((on s (2 * k+1):Nat):Int)) (by omega) (by omega),Z4 (n:=256 * ((on s (2 * k+1):Nat):Int)) (by omega) (by omega),Z4 (by omega) (by omega)];by_cases e:j=k
   ·subst e;rw[X3]
   grind [D5]
  ·obtain⟨f,i⟩:=y;obtain⟨h1,rfl⟩:(∀i,i < 16->f i=g i)/\i=((16:Nat):Int):=hy;exact Ok.f rfl (Ok.d h1)
 ·have hl:H3 e:=λi hi=>by grind
  have h15:=hl 15 (by decide)
  have ev:vF e 16=((Yl s:Nat):Int):=(ZR he).trans (Ct (on s) 16).symm;refine Ok.o rfl (Ok.r rfl (x:=e 15) rfl (Ok.o rfl (Ok.r rfl (x:=e 15) rfl (Ok.re (Ok.o rfl (Ok.o rfl (Ok.d ?_)))))))
  have em:Int.tmod (e 15) 32768=e 15 % 32768:=(by grind)
  show H3 (U6 e 15 (Int.tmod (e 15) 32768))/\vF (U6 e 15 (Int.tmod (e 15) 32768)) 16=_;rw[em]
  have hl2:H3 (U6 e 15 (e 15 % 32768)):=λi hi=>by
   grind [X3,D5]
  refine⟨hl2,?_⟩;have e15:vF e 16=vF e 15+e 15 * 65536 ^ 15:=rfl;have hlt:vF e 15 < 65536 ^ 15:=OY λi hi=>hl i (by omega);have h0:0<=vF e 15:=V9 (by grind);grind [KF,Int.natCast_emod,Yl]
def pd(i:Nat):Int:=if i=15 then 32767 else if i=0 then 65517 else 65535
theorem uO:vF pd 16=57896044618658097711785492504343953926634992332820282019728792003956564819949:=by decide +kernel
theorem uL(i:Nat):0<=pd i/\pd i < 65536:=by grind [pd]
theorem Mj{f g:Nat->Int}(j:Nat):∀{n:Nat},(∀i,j<=i->i < j+n->f i=g i)->vF f (j+n) - vF g (j+n)=vF f j - vF g j
 | 0,_=>rfl
 | n+1,h=>by
  show vF f (j+n)+f (j+n) * 65536 ^ (j+n) - (vF g (j+n)+g (j+n) * 65536 ^ (j+n))=_
  have ih:=Mj (f:=f) (g:=g) j (n:=n) (by grind);grind
theorem lex_lt{f g:Nat->Int}{i:Nat}(hf:∀j,j < i->0<=f j/\f j < 65536)(hg:∀j,j < i->0<=g j/\g j < 65536)(h:f i < g i):vF f (i+1) < vF g (i+1):=by
 rw[E1,E1];have h1:=OY hf;have h2:=V9 λj hj=>(hg j hj).1;have h3:=Int.mul_le_mul_of_nonneg_right (show f i+1<=g i by omega) (Int.le_of_lt (Mk i));grind
theorem gY(f:Nat->Int)(hf:H3 f):Qy (tB f) (λr=>r=decide (vF f 16 < 57896044618658097711785492504343953926634992332820282019728792003956564819949)):=by
 unfold tB;refine Qy.fn ?_;unfold Qkc;refine Ok.o rfl (Ok.p (R:=λe=>match e with|.inl b=>b=decide (vF f 16 < 57896044618658097711785492504343953926634992332820282019728792003956564819949)|.inr _=>∀i,1<=i->i < 16->f i=pd i) ?_ (λb hb=>Ok.d hb) λ_ he=>?_)
 ·refine Ok.s 15 (by decide) (λk y=>(∀i,16 - k<=i->i < 16->f i=pd i)/\y=15 - (k:Int)) (by grind) (λk y hy hk=>?_) λy hy=>?_
  ·obtain⟨h1,rfl⟩:=hy;have e15:(15 - (k:Int))=((15 - k:Nat):Int):=by omega
   have hi:15 - k < 16:=by omega
   have ew:Q0 (((15 - k:Nat):Int) - 1)=15 - ((k+1:Nat):Int):=by grind [Z4]
   rw[e15];have hsame:vF f 16 - vF pd 16=vF f (15 - k+1) - vF pd (15 - k+1):=by
    have:=Mj (f:=f) (g:=pd) (15 - k+1) (n:=k) (by grind);grind
   refine Ok.t (by grind) (Ok.b (R:=λe=>e=pd (15 - k)) (Ok.e (λhc=>Ok.d ?_) λhc=>Ok.d ?_) λe he=>?_)
   ·have hc:((15 - k:Nat):Int)=15:=by simpa using hc
    unfold pd;grind
   ·have hc:¬((15 - k:Nat):Int)=15:=by simpa using hc
    unfold pd;grind
   ·subst he;refine UL hi (Ok.e (λhc=>UL hi (Ok.d ?_)) λhc=>Ok.d ⟨λi h2 h3=>?_,ew⟩)
    ·have hc:f (15 - k)≠pd (15 - k):=by simpa using hc
     show decide (f (15 - k) < pd (15 - k))=decide (vF f 16 < 57896044618658097711785492504343953926634992332820282019728792003956564819949);rw[<-uO];rcases Int.lt_or_lt_of_ne hc with h|h
     ·have:=lex_lt (λj hj=>hf j (by omega)) (λj _=>uL j) h;grind
     ·have:=lex_lt (λj _=>uL j) (λj hj=>hf j (by omega)) h;grind
    grind
  ·obtain⟨h1,rfl⟩:=hy;exact Ok.f rfl (by grind [Ok.d])
 ·refine Ok.o rfl (Ok.r rfl (x:=f 0) rfl (Ok.d ?_));have hs:vF f 16 - vF pd 16=vF f 1 - vF pd 1:=Mj (f:=f) (g:=pd) 1 (n:=15) (by grind);have e1:vF f 1=f 0:=by show 0+f 0 * 65536 ^ 0=f 0;omega
  have e2:vF pd 1=65517:=by decide
  rw[<-uO];grind
theorem w15:(65536:Int) ^ 15=1766847064778384329583297500742918515827483896875618958121606201292619776:=by decide
theorem cQ{f h:Nat->Int}{c:Int}(hf:H3 f)(hp:57896044618658097711785492504343953926634992332820282019728792003956564819949<=vF f 16)(H:L6 f 19 65536 16 h c) :
  H3 (U6 h 15 (if 0 < c then h 15 - 32768+65536 else h 15 - 32768))/\vF (U6 h 15 (if 0 < c then h 15 - 32768+65536 else h 15 - 32768)) 16=vF f 16 - 57896044618658097711785492504343953926634992332820282019728792003956564819949/\0<=h 15/\h 15 < 65536:=by
 obtain⟨h1,h2,h3,h4,h5⟩:=H;have hl:H3 h:=h1;have hv:=UR hl;have hfv:=UR hf;have h15:=h1 15 (by decide);have e15:vF h 16=vF h 15+h 15 * 65536 ^ 15:=rfl;have hlt:vF h 15 < 65536 ^ 15:=OY λi hi=>hl i (by omega);have h0:0<=vF h 15:=V9 (by grind);rw[w15] at e15 hlt;rw[w16] at h3;refine⟨λi hi=>?_,?_,h15.1,h15.2⟩
 ·grind [X3,D5]
 grind [KF,w15]
theorem mH{x:Int}(h0:0<=x)(h:x < 57896044618658097711785492504343953926634992332820282019728792003956564819949):((md x:Nat):Int)=x:=by rw[Jr];omega
theorem Qjg{f:Nat->Int}(hf:H3 f){N:Nat}(hN:(N:Int)=vF f 16){i:Nat}(hi:i < 16):f i=((N / 65536 ^ i % 65536:Nat):Int):=by
 have e:=Uz f i (16 - i);rw[show i+(16 - i)=16 by omega] at e
 have h1:vF f i < 65536 ^ i:=OY λj hj=>hf j (by omega)
 have h0:0<=vF f i:=V9 λj hj=>(hf j (by omega)).1
 have e2:=Uz (λj=>f (i+j)) 1 (16 - i - 1);rw[show 1+(16 - i - 1)=16 - i by omega] at e2
 have e3:vF (λj=>f (i+j)) 1=f i:=by show 0+f (i+0) * 65536 ^ 0=f i;grind
 rw[e3] at e2;have hfi:=hf i hi;have d1:(N:Int) / 65536 ^ i=vF (λj=>f (i+j)) (16 - i):=by
  simp_all [Int.add_mul_ediv_left,Int.ne_of_gt,Mk,Int.ediv_eq_zero_of_lt,Int.zero_add]
 grind
theorem rC(g:Nat->Int)(k:Nat):(List.range (2 * k)).map g++[g (2 * k),g (2 * k+1)]=(List.range (2 * (k+1))).map g:=by
 grind [List.range_succ,List.append_assoc]
theorem Qqc(f:Nat->Int)(hf:H3 f):Qy (vC f) (λr=>r=Oe (nF f)):=by
 unfold vC;refine Qy.fn ?_;unfold Qmn;refine Ok.o rfl (Ok.b (R:=λe=>H3 e/\vF e 16 < 57896044618658097711785492504343953926634992332820282019728792003956564819949/\nF e=nF f) ?_ λe he=>?_)
 ·refine Ok.lp (λy=>H3 y/\nF y=nF f) (λy=>(vF y 16 / 57896044618658097711785492504343953926634992332820282019728792003956564819949).toNat) ⟨hf,rfl⟩ (by have:=UR hf;unfold Yp;omega) λy hy=>?_;obtain⟨h1,h2⟩:=hy;have hv:=UR h1;refine Ok.o rfl (Ok.c (gY y h1) λr hr=>Ok.e (λhc=>?_) λhc=>Ok.d ?_)
  ·have hp:57896044618658097711785492504343953926634992332820282019728792003956564819949<=vF y 16:=by
    grind
   refine Ok.b (R:=λq=>L6 y 19 65536 16 q.1 q.2) ?_ λq hq=>?_
   ·refine Ok.s 16 (by decide) (λk z=>L6 y 19 65536 k z.1 z.2.1/\z.2.2=(k:Int)) ⟨(by grind [RZ]),rfl⟩ (λk z hz hk=>?_) λz hz=>?_
    ·obtain⟨h,c,i⟩:=z;obtain⟨H,rfl⟩:L6 y 19 65536 k h c/\i=(k:Int):=hz;have e1:=H.2.1 k (zN _);have hc:=H.2.2.2;have hfk:=h1 k hk;refine Ok.t (by grind) (UL hk (UL hk (Ok.re (Ok.d ⟨?_,Z9 hk (by decide)⟩))));obtain⟨c1,c2,c3⟩:=car (c:=c) (x:=h k) (by rw[e1];omega) (by rw[e1];omega);show L6 y 19 65536 (k+1) (U6 h (0+(k:Int).toNat) (Int.tmod (Q0 (c+h k)) 65536)) (Q0 (Int.tdiv (Q0 (c+h k)) 65536));rw[c2,c3,e1,zR,zY];grind [Ei]
    ·obtain⟨h,c,i⟩:=z;obtain⟨H,rfl⟩:L6 y 19 65536 16 h c/\i=((16:Nat):Int):=hz;exact Ok.f rfl (Ok.d H)
   ·obtain⟨h,c⟩:=q;obtain⟨t1,t2,t3,t4⟩:=cQ h1 hp hq
    dsimp only at t1 t2 t3 t4
    have fin:∀v,v=(if 0 < c then h 15 - 32768+65536 else h 15 - 32768)->Rnd (λy=>H3 y/\nF y=nF f) (λy=>(vF y 16 / 57896044618658097711785492504343953926634992332820282019728792003956564819949).toNat) (vF y 16 / 57896044618658097711785492504343953926634992332820282019728792003956564819949).toNat (λe=>H3 e/\vF e 16 < 57896044618658097711785492504343953926634992332820282019728792003956564819949/\nF e=nF f) (.inl (U6 h 15 v)):=λv hv2=>by
     subst hv2;refine⟨⟨t1,?_⟩,?_⟩
     ·show md (vF _ 16)=_;rw[t2,<-h2,show vF y 16 - 57896044618658097711785492504343953926634992332820282019728792003956564819949=vF y 16 - 57896044618658097711785492504343953926634992332820282019728792003956564819949 * 1 by omega,AB];rfl
     grind
    have ea:Q0 (h 15 - 32768)=h 15 - 32768:=Z4 (by omega) (by omega)
    have upd2:∀a b:Int,U6 (U6 h 15 a) 15 b=U6 h 15 b:=λa b=>funext (by grind [X3,D5]);refine Ok.o rfl (Ok.r rfl (x:=h 15) rfl (Ok.o rfl (Ok.r rfl (x:=h 15) rfl (Ok.re (Ok.e (λhc=>?_) λhc=>Ok.d ?_)))))
    ·have hc:0 < c:=by simpa using hc
     have x15:(Y6 (U6 h 15 (Q0 (h 15 - 32768))))[15]?=some (h 15 - 32768):=by simp_all [MW,if_pos,X3]
     refine Ok.o rfl (Ok.r rfl x15 (Ok.o rfl (Ok.r rfl x15 (Ok.re (Ok.d ?_)))));have:=fin (h 15 - 32768+65536) (by rw[if_pos hc]);rw[upd2,Z4 (n:=h 15 - 32768+65536) (by omega) (by omega)];exact this
    grind
  ·have:decide (vF y 16 < 57896044618658097711785492504343953926634992332820282019728792003956564819949)=true:=by grind
   exact⟨h1,of_decide_eq_true this,h2⟩
 ·obtain⟨h1,h2,h3⟩:=he;have hM:((nF e:Nat):Int)=vF e 16:=mH (UR h1).1 h2;rw[<-h3];have hlt:nF e < 2 ^ 255:=(by grind);generalize nF e=M at *
  refine Ok.g (Ok.b (R:=λl=>l=A9 λj=>((M3 8 M 255 j:Nat):Int)) ?_ λl hl=>Ok.o rfl (Ok.d (by rw[hl];rfl)));refine Ok.s 16 (by decide) (λk y=>y.1=(List.range (2 * k)).map (λj=>((M3 8 M 255 j:Nat):Int))/\y.2=(k:Int)) ⟨rfl,rfl⟩ (λk y hy hk=>?_) λy hy=>?_
  ·obtain⟨l,i⟩:=y;obtain⟨hl,rfl⟩:l=(List.range (2 * k)).map (λj=>((M3 8 M 255 j:Nat):Int))/\i=(k:Int):=hy;have hlen:l.length=2 * k:=by rw[hl];simp
   have hd:=Qjg h1 hM hk
   have hek:=h1 k hk;refine Ok.t (by grind) (UL hk (UL hk (Ok.app (by grind) (Ok.g (Ok.g (Ok.d ⟨?_,Z9 hk (by decide)⟩))))))
   have t1:Qk (Int.tmod (e k) 256)=e k % 256:=by
    rw[Int.tmod_eq_emod_of_nonneg hek.1];show IntKind.u8.wrap _=_;rw[IntKind.wrap_u8];omega
   have t2:Qk (Q0 (Int.tdiv (e k) 256))=e k / 256:=by
    rw[Int.tdiv_eq_ediv_of_nonneg hek.1,Z4 (by omega) (by omega)];show IntKind.u8.wrap _=_;rw[IntKind.wrap_u8];omega
   show l++[Qk (Int.tmod (e k) 256),Qk (Q0 (Int.tdiv (e k) 256))]=_;rw[t1,t2,hl,<-rC]
   have p8:∀j,(2:Nat) ^ (8 * j)=256 ^ j:=λj=>by rw[Nat.pow_mul]
   have q0:((M3 8 M 255 (2 * k):Nat):Int)=e k % 256:=by
    unfold M3;rw[Nat.mod_eq_of_lt hlt,p8,show (256:Nat) ^ (2 * k)=65536 ^ k by rw[Nat.pow_mul],hd];omega
   have q1:((M3 8 M 255 (2 * k+1):Nat):Int)=e k / 256:=by
    unfold M3;rw[Nat.mod_eq_of_lt hlt,p8,Nat.pow_succ,show (256:Nat) ^ (2 * k)=65536 ^ k by rw[Nat.pow_mul],<-Nat.div_div_eq_div_mul,hd];omega
   rw[q0,q1]
  ·obtain⟨l,i⟩:=y;obtain⟨hl,rfl⟩:l=(List.range (2 * 16)).map (λj=>((M3 8 M 255 j:Nat):Int))/\i=((16:Nat):Int):=hy;exact Ok.f rfl (Ok.d hl)
section
attribute [local irreducible] Ok
theorem C8{ρ:Type}{Q:ρ->Prop}{a:Nat}{o:Operand}{d b:Nat}{f:Nat->Int}{K:Unit->TT ρ}(h:Ok (K ()) Q):Ok (.Qq a (Yi o d b f) K) Q:=Ok.o rfl h
theorem C7{ρ:Type}{Q:ρ->Prop}{a:Nat}{o v:Operand}{b:Nat}{f g:Nat->Int}{K:Unit->TT ρ}(h:Ok (K ()) Q):Ok (.Qq a (HD o v b f g) K) Q:=Ok.o rfl h
theorem C9{ρ:Type}{Q:ρ->Prop}{a d:Nat}{K:Unit->TT ρ}(h:Ok (K ()) Q):Ok (.Qq a (Xf d) K) Q:=Ok.o rfl h
theorem hP(s:ze)(hs:s.size=32):Qy (vV s) (λr=>r=Dx s):=by
 have hl:(Q3 s).length=32:=by rw[U1,hs]
 have hx:∀i,i < 32->(Q3 s)[i]?=some ((on s i:Nat):Int):=(by grind [Gg,WU])
 have c0:Qk (Qk (Int.tdiv ((on s 0:Nat):Int) 8) * 8)=((on s 0 / 8 * 8:Nat):Int):=by
  have:=Ux s 0
  have e:Int.tdiv ((on s 0:Nat):Int) 8=((on s 0 / 8:Nat):Int):=td _ 8;rw[e]
  show IntKind.u8.wrap (IntKind.u8.wrap _ * 8)=_;grind [IntKind.wrap_u8]
 have c1:Qk (Int.tmod ((on s 31:Nat):Int) 64+64)=((on s 31 % 64+64:Nat):Int):=by
  have e:Int.tmod ((on s 31:Nat):Int) 64=((on s 31 % 64:Nat):Int):=tm _ 64;rw[e]
  show IntKind.u8.wrap _=_;rw[IntKind.wrap_u8];omega
 have h31:((Q3 s).set 0 (Qk (Qk (Int.tdiv ((on s 0:Nat):Int) 8) * 8)))[31]?=some ((on s 31:Nat):Int):=by
  grind
 unfold vV;refine Qy.fn ?_;unfold Qmt;refine Ok.o rfl (Ok.k (by rw[hl];rfl) (Ok.r rfl (hx 0 (by decide)) (Ok.k (by rw[hl];rfl) (Ok.r rfl (hx 0 (by decide)) (Ok.re (Ok.g ?_))))));refine Ok.k (by grind) (Ok.r rfl h31 (Ok.k (by grind) (Ok.r rfl h31 (Ok.re (Ok.g (Ok.o rfl (Ok.d ?_)))))));rw[c0,c1];unfold Dx;congr 1;refine List.ext_getElem? λi=>?_;rw[YF,List.getElem?_set,List.getElem?_set,List.length_set,hl];unfold qY;grind
theorem Sb(k p:ze)(hk:k.size=32)(hp:p.size=32):Qy (s70 k p) (λr=>r=xS k p):=by
 unfold s70;refine Qy.fn ?_;unfold g70;refine Ok.c (hP k hk) λc hc=>Ok.c (gQ p hp) λu hu=>?_;have hN:∀i,i < 255->on c (i / 8) / 2 ^ (i % 8) % 2=Yl (Dx k) / 2 ^ i % 2:=λi hi=>by rw[hc];exact Br (on (Dx k)) (Ux _) (n:=32) (k:=i) (by omega)
 have hcs:c.size=32:=by rw[hc];exact Rc k
 have hx:xS k p=Oe (xN (Yl (Dx k)) (Yl p % 2 ^ 255)):=by unfold xS;rfl
 rw[hx];clear hc hx;generalize Yl (Dx k)=N at *
 repeat first|refine C8 ?_|refine C7 ?_|refine C9 ?_
 refine Ok.c (Av 1 ⟨by decide,by decide⟩) λone h1=>Ok.c (Av 0 ⟨by decide,by decide⟩) λzer h0=>?_;repeat first|refine C8 ?_|refine C7 ?_|refine C9 ?_
 refine Ok.c (Av 1 ⟨by decide,by decide⟩) λon2 h1'=>?_;repeat first|refine C8 ?_|refine C7 ?_|refine C9 ?_
 have n1:∀x:Nat->Int,vF x 16=1->nF x=1:=λx h=>by unfold nF;rw[h];decide +kernel
 have n0:∀x:Nat->Int,vF x 16=0->nF x=0:=λx h=>by unfold nF;rw[h];decide +kernel
 have nc:∀x:Nat->Int,vF x 16=121665->nF x=121665:=λx h=>by unfold nF;rw[h];decide +kernel
 have nu:nF u=Yl p % 2 ^ 255 % nP:=by unfold nF;rw[hu.2];exact NR rfl
 obtain⟨L,hL⟩:∃L,YC 121665 (nF u) (Crv.bits N 255) 1 0 (nF u) 1=L:=⟨_,rfl⟩;refine Ok.b (R:=λe=>(H3 e.1/\H3 e.2)/\L=(nF e.1,nF e.2)) ?_ λe he=>?_
 ·refine Ok.s 255 (by decide) (λk y=>((H3 y.1/\H3 y.2.1/\H3 y.2.2.1/\H3 y.2.2.2.1)/\YC 121665 (nF u) (Crv.bits N (255 - k)) (nF y.1) (nF y.2.1) (nF y.2.2.1) (nF y.2.2.2.1)=L)/\y.q=254 - (k:Int))
   (by grind) (λk y hy hk=>?_) λy hy=>?_
  ·obtain⟨a,b,c2,d,i⟩:=y;obtain⟨⟨⟨la,lb,lc,ld⟩,hlad⟩,rfl⟩:((H3 a/\H3 b/\H3 c2/\H3 d)/\YC 121665 (nF u) (Crv.bits N (255 - k)) (nF a) (nF b) (nF c2) (nF d)=L)/\i=254 - (k:Int):=hy;obtain⟨j,hj⟩:∃j,j=254 - k:=⟨_,rfl⟩;have ej:(254 - (k:Int))=(j:Int):=by omega
   have ew:Q0 ((j:Int) - 1)=254 - ((k+1:Nat):Int):=by grind [Z4]
   rw[show 255 - k=j+1 by omega,Lg] at hlad;have hb:=hN j (by omega);have e1:U0 .u8 (Z3 .u8 (QQ c (Q0 (Int.tdiv (j:Int) 8))) (Z2 (Int.tmod (j:Int) 8))) 1=((N / 2 ^ j % 2:Nat):Int):=by
    rw[td8 j (by omega),tm8,U2 (by omega) (by omega),WU,Gl ⟨on c (j / 8),Ux _ _⟩ ⟨j % 8,Nat.mod_lt _ (by decide)⟩,<-hb]
   have e2:=td8 j (by omega)
   have hb2:=RM N j;rw[ej];refine Ok.t (by grind) (Ok.k (by grind) (Ok.k (by grind [tm8,U2,decide,Z2,Int.tmod]) ?_));refine Ok.b (R:=λe=>(H3 e.1/\H3 e.2.1/\H3 e.2.2.1/\H3 e.2.2.2)/\e=if N / 2 ^ j % 2=1 then (c2,d,a,b) else (a,b,c2,d)) (Ok.e (λhc=>?_) λhc=>?_) λe he=>?_
   ·have hc:(U0 .u8 (Z3 .u8 (QQ c (Q0 (Int.tdiv (j:Int) 8))) (Z2 (Int.tmod (j:Int) 8))) 1==1)=true:=hc;rw[e1] at hc;repeat first|refine C8 ?_|refine C7 ?_|refine C9 ?_
    simp_all [Ok.d,if_pos,Gi]
   ·have hc:(U0 .u8 (Z3 .u8 (QQ c (Q0 (Int.tdiv (j:Int) 8))) (Z2 (Int.tmod (j:Int) 8))) 1==1)=false:=hc;simp_all [Ok.d,if_neg,IM]
   ·obtain⟨x,z,x2,z2⟩:=e;obtain⟨⟨l1,l2,l3,l4⟩,hE⟩:=he;repeat first|refine C8 ?_|refine C7 ?_|refine C9 ?_
    refine Ok.c (NJ x z l1 l2) λp2 hp2=>?_;repeat first|refine C8 ?_|refine C7 ?_|refine C9 ?_
    refine Ok.c (NH x z l1 l2) λm hm=>?_;repeat first|refine C8 ?_|refine C7 ?_|refine C9 ?_
    refine Ok.c (Uo p2 p2 hp2.1 hp2.1) λs hs=>?_;repeat first|refine C8 ?_|refine C7 ?_|refine C9 ?_
    refine Ok.c (Uo m m hm.1 hm.1) λt ht=>?_;repeat first|refine C8 ?_|refine C7 ?_|refine C9 ?_
    refine Ok.c (NH s t hs.1 ht.1) λg hg=>?_;repeat first|refine C8 ?_|refine C7 ?_|refine C9 ?_
    refine Ok.c (NH x2 z2 l3 l4) λf0 hf0=>?_;repeat first|refine C8 ?_|refine C7 ?_|refine C9 ?_
    refine Ok.c (Uo f0 p2 hf0.1 hp2.1) λf hf=>?_;repeat first|refine C8 ?_|refine C7 ?_|refine C9 ?_
    refine Ok.c (NJ x2 z2 l3 l4) λg0 hg0=>?_;repeat first|refine C8 ?_|refine C7 ?_|refine C9 ?_
    refine Ok.c (Uo g0 m hg0.1 hm.1) λq hq=>?_;repeat first|refine C8 ?_|refine C7 ?_|refine C9 ?_
    refine Ok.c (Uo s t hs.1 ht.1) λv1 hv1=>?_;repeat first|refine C8 ?_|refine C7 ?_|refine C9 ?_
    refine Ok.c (Av 121665 ⟨by decide,by decide⟩) λcc hcc=>?_;repeat first|refine C8 ?_|refine C7 ?_|refine C9 ?_
    refine Ok.c (Uo cc g hcc.1 hg.1) λd1 hd1=>?_;repeat first|refine C8 ?_|refine C7 ?_|refine C9 ?_
    refine Ok.c (NJ s d1 hs.1 hd1.1) λd2 hd2=>?_;repeat first|refine C8 ?_|refine C7 ?_|refine C9 ?_
    refine Ok.c (Uo g d2 hg.1 hd2.1) λv2 hv2=>?_;repeat first|refine C8 ?_|refine C7 ?_|refine C9 ?_
    refine Ok.c (NJ f q hf.1 hq.1) λh3 hh3=>?_;repeat first|refine C8 ?_|refine C7 ?_|refine C9 ?_
    refine Ok.c (NJ f q hf.1 hq.1) λh4 hh4=>?_;repeat first|refine C8 ?_|refine C7 ?_|refine C9 ?_
    refine Ok.c (Uo h3 h4 hh3.1 hh4.1) λv3 hv3=>?_;repeat first|refine C8 ?_|refine C7 ?_|refine C9 ?_
    refine Ok.c (NH f q hf.1 hq.1) λj1 hj1=>?_;repeat first|refine C8 ?_|refine C7 ?_|refine C9 ?_
    refine Ok.c (NH f q hf.1 hq.1) λj2 hj2=>?_;repeat first|refine C8 ?_|refine C7 ?_|refine C9 ?_
    refine Ok.c (Uo j1 j2 hj1.1 hj2.1) λj3 hj3=>?_;repeat first|refine C8 ?_|refine C7 ?_|refine C9 ?_
    refine Ok.c (Uo u j3 hu.1 hj3.1) λv4 hv4=>?_;repeat first|refine C8 ?_|refine C7 ?_|refine C9 ?_
    have D:∀K:Nat->Nat->Nat×Nat,Rg 121665 (nF x) (nF z) K=K (nF v1) (nF v2):=λK=>by
     simp only[Rg,force_eq];rw[hv1.2,hv2.2,hd2.2,hd1.2,hg.2,hs.2,ht.2,hp2.2,hm.2,nc cc hcc.2,wP 121665]
    have F:∀K:Nat->Nat->Nat×Nat,Ro (nF u) (nF x) (nF z) (nF x2) (nF z2) K=K (nF v3) (nF v4):=λK=>by
     simp only[Ro,force_eq];rw[hv3.2,hv4.2,hj3.2,hj1.2,hj2.2,hh3.2,hh4.2,hf.2,hq.2,hf0.2,hg0.2,hp2.2,hm.2]
    refine Ok.e (λhc=>?_) λhc=>?_
    ·have hc:(U0 .u8 (Z3 .u8 (QQ c (Q0 (Int.tdiv (j:Int) 8))) (Z2 (Int.tmod (j:Int) 8))) 1==1)=true:=hc;rw[e1] at hc
     have h1:=Gi hc;rw[if_pos h1] at hE;simp only[zP] at hE;obtain⟨rfl,rfl,rfl,rfl⟩:=hE;repeat first|refine C8 ?_|refine C7 ?_|refine C9 ?_
     refine Ok.d ⟨⟨⟨hv3.1,hv4.1,hv1.1,hv2.1⟩,?_⟩,ew⟩;rw[h1] at hlad;rw[show 255 - (k+1)=j by omega,<-hlad];show _=(bif true then _ else _);rw[cond_true,D,F]
    ·have hc:(U0 .u8 (Z3 .u8 (QQ c (Q0 (Int.tdiv (j:Int) 8))) (Z2 (Int.tmod (j:Int) 8))) 1==1)=false:=hc;rw[e1] at hc
     have h1:=IM hb2 hc;rw[if_neg (by rw[h1];decide)] at hE;simp only[zP] at hE;obtain⟨rfl,rfl,rfl,rfl⟩:=hE;refine Ok.d ⟨⟨⟨hv1.1,hv2.1,hv3.1,hv4.1⟩,?_⟩,ew⟩;rw[h1] at hlad;rw[show 255 - (k+1)=j by omega,<-hlad]
     show _=(bif false then _ else _);rw[cond_false,D,F]
  ·obtain⟨a,b,c2,d,i⟩:=y;obtain⟨⟨⟨la,lb,lc,ld⟩,hlad⟩,rfl⟩:((H3 a/\H3 b/\H3 c2/\H3 d)/\YC 121665 (nF u) (Crv.bits N (255 - 255)) (nF a) (nF b) (nF c2) (nF d)=L)/\i=254 - ((255:Nat):Int):=hy;refine Ok.f rfl (Ok.d ⟨⟨la,lb⟩,?_⟩);rw[Nat.sub_self,Lf,NV] at hlad;exact hlad.symm
 ·obtain⟨a,b⟩:=e;obtain⟨⟨la,lb⟩,hl⟩:=he;repeat first|refine C8 ?_|refine C7 ?_|refine C9 ?_
  refine Ok.c (Qqb b lb) λq hq=>?_;repeat first|refine C8 ?_|refine C7 ?_|refine C9 ?_
  refine Ok.c (Uo a q la hq.1) λt ht=>Ok.c (Qqc t ht.1) λo ho=>Ok.d ?_;rw[ho,ht.2,hq.2];rw[nu,hl] at hL;unfold xN;rw[hL]
end
end Go.Proofs.YtjdieimefebnfaaGreatDoor
namespace Go.Proofs.YtjdieimefebnfaaGreatDoor
open Go Go.EV
theorem AZ:Qy s71 (λr=>r=V4):=⟨V4,by kernel_rfl,rfl⟩
theorem Cn(c:Bool)(e:Int):(X8 c e).o=some (bif c then .inl () else .inr ()):=by
 show (eZ c e).run=_;unfold eZ;simp only[T.run];cases c<;>rfl
theorem Ok.QB{P:Program}{G:zi}{ρ α β:Type}{Q:ρ->Prop}{a:Nat}{s:O8 P G α β}{Li Lo:List (Nat×Nat)}{k:α->T P G ρ}{k2:β->T P G ρ}{v:α}(hs:s.o=some (.inl v))(h:Ok (k v) Q):Ok (.Qa a s Li Lo k k2) Q:=Ok.Qa hs (by grind) (λr e=>by cases e)
theorem Ok.QX{P:Program}{G:zi}{ρ α β:Type}{Q:ρ->Prop}{a:Nat}{s:O8 P G α β}{Li Lo:List (Nat×Nat)}{k:α->T P G ρ}{k2:β->T P G ρ}{v:β}(hs:s.o=some (.inr v))(h:Ok (k2 v) Q):Ok (.Qa a s Li Lo k k2) Q:=Ok.Qa hs (λr e=>by cases e) (by grind)
theorem Ok.Zf{ρ:Type}{Q:ρ->Prop}{a:Nat}{c:Bool}{e:Int}{Li Lo:List (Nat×Nat)}{k k2:Unit->TT ρ}(hc:c=true)(h:Ok (k ()) Q):Ok (.Qa a (X8 c e) Li Lo k k2) Q:=by grind [Ok.QB,Cn]
theorem Ok.Yz{ρ:Type}{Q:ρ->Prop}{a:Nat}{c:Bool}{e:Int}{Li Lo:List (Nat×Nat)}{k k2:Unit->TT ρ}(hc:c=false)(h:Ok (k2 ()) Q):Ok (.Qa a (X8 c e) Li Lo k k2) Q:=by grind [Ok.QX,Cn]
theorem Fb(e:Int):Qy (s57 true e) (λ_=>True):=⟨(),rfl,trivial⟩
theorem WN(s:ze):Qy (Fz s 0) (λr=>r=s):=by
 unfold Fz;refine Qy.fn ?_;unfold Qki;exact Ok.c (Fb 0) λ_ _=>Ok.d rfl
theorem lB(t:Y0):Qy (tO t 0) (λr=>r=t):=by
 unfold tO;refine Qy.fn ?_;unfold Qkl;exact Ok.c (Fb 0) λ_ _=>Ok.d rfl
theorem lS(b:Bool):Qy (vE b 0) (λr=>r=b):=by
 unfold vE;refine Qy.fn ?_;unfold Qmh;exact Ok.c (Fb 0) λ_ _=>Ok.d rfl
theorem Fo:Qy s66 (λr=>r=oW):=⟨_,rfl,rfl⟩
theorem Qym(k:Int)(b:ze)(hb:b.size<=100000):strOfNums [Qk k,Qk (Z3 .i64 (b.size:Int) 16),Qk (Z3 .i64 (b.size:Int) 8),Qk (b.size:Int)]++b=Jm k b:=by
 unfold Jm;rw[show (16:Int)=((16:Nat):Int) from rfl,show (8:Int)=((8:Nat):Int) from rfl,T7 _ 16 (by decide),T7 _ 8 (by decide),B9,B9,B9,B9];rfl
theorem ZV(n:Z0)(m:Q8)(hb:n.fI.size<=100000)(ht:m.fe.fD.size<=100000):Qy (Ah n m) (λr=>r=m.fe.fD++Jm n.fw n.fI):=by
 show Ok (Qyn n m) _;unfold Qyn;rw[Qym _ _ hb];refine Ok.k ?_ (Ok.k ?_ (Ok.d rfl))
 ·rw[E5,zI];grind
 ·rw[K6,zI];omega
theorem ON(st k:Int)(b:ze)(m:Q8)(hn:V0 m.fe.fk=true)(hs:0<=m.fe.fm/\m.fe.fm<=100):Qy (Fj st k b m) (λr=>r=((My st m.fe.fk).fE,(My st m.fe.fk).fY,(My st m.fe.fk).fL,m.fe.fm+1,[⟨k,m.fe.fm,b⟩])):=by
 show Ok (Qj4 st k b m) _;unfold Qj4
 have e1:Q0 (m.fe.fm+1)=m.fe.fm+1:=Z4 (by omega) (by omega);rw[e1];refine Ok.c Fo λr hr=>?_;subst hr;refine Ok.n (R:=λc=>c=!decide (st=1\/st=6)) (Ok.e (λh=>Ok.d ?_) λh=>Ok.d ?_) λc hc=>?_
 ·grind
 ·grind
 subst hc;unfold My;refine Ok.e (λh=>?_) λh=>?_
 ·rw[if_neg (by simpa using h)];grind [Ok.c,kW,lB,Ok.g,Ok.d]
 ·rw[if_pos (by simp at h;omega)];exact Ok.g (Ok.g (Ok.d rfl))
theorem SJ(m:Q8)(hf:m.fe.fZ.size=32):Qy (jO m) (λr=>r=Um m.fe):=by
 show Ok (Qj3 m) _;unfold Qj3;refine Ok.c (Uf _) λr hr=>?_;rw[if_pos hf] at hr;subst hr;exact Ok.c (WN _) λr hr=>Ok.d hr
theorem Cd(a b c d:ze)(m:Q8)(ha:a.size<=100)(hb:b.size<=100)(hc:c.size<=100)(hd:d.size<=100):Qy (tX a b c d m) (λr=>r=FM a b c d):=by
 show Ok (Qyf a b c d m) _;unfold Qyf;refine Ok.k (by grind) (Ok.k (by grind) (Ok.c (NA (a++b) (c++d) nY (by grind) (by grind) (by decide)) λr hr=>?_));subst hr;exact Ok.c (WN _) λr hr=>Ok.d hr
theorem Xc(m:Q8)(side s:ze)(hm:m.fe.fF.size<=100)(hd:side.size<=100)(hs:s.size<=4096):Qy (jM m side s) (λr=>r=O7 m.fe.fF side s):=by
 show Ok (Qyo m side s) _;unfold Qyo;refine Ok.c (NA _ zg side (by omega) (by decide) (by omega)) λr hr=>?_;subst hr;refine Ok.c (WN _) λk hk=>?_;subst hk;refine Ok.c (Cw s hs) λr hr=>?_;subst hr;refine Ok.c (WN _) λr hr=>?_;subst hr;refine Ok.c (kI _ _ (by rw[Dk];decide) (by rw[EU];decide)) λr hr=>?_;subst hr;exact Ok.c (WN _) λr hr=>Ok.d hr
theorem CT(s:ze)(m:Q8)(hs:s.size<=1000000):(tA s m).o=some (if okB s=false then .inr (false,5) else if T8 (QI s) m.fe.fJ m.fe.fk≠0 then .inr (true,T8 (QI s) m.fe.fJ m.fe.fk) else .inl ((QI s).fp,(QI s).fH,(QI s).fC,(QI s).fB,(QI s).fP)):=by
 show (Qyg s m).run=_;unfold Qyg
 have h1:=(WB s hs).eq;cases ho:okB s with
 | false=>
  have hd:JL s=(zB,5):=by unfold JL;rw[ho];rfl
  rw[if_pos rfl];simp only[T.run,h1,hd,Cn];rfl
 | true=>
  have hd:JL s=(QI s,0):=by grind [JL]
  have h2:=(Qzw (QI s) m.fe.fJ m.fe.fk).eq;rw[if_neg (by decide)];simp only[T.run,h1,hd,Cn,h2,show ((0:Int)==0)=true from rfl,cond_true];by_cases ha:T8 (QI s) m.fe.fJ m.fe.fk=0
  ·grind
  ·rw[if_pos ha,show (T8 (QI s) m.fe.fJ m.fe.fk != 0)=true from by simpa using ha];rfl
theorem Xn(k p:ze)(hk:k.size=32)(hp:p.size=32):(jE k p).o=some (if xS k p=MZ then .inr 2 else .inl (xS k p)):=by
 show (Qyl k p).run=_;unfold Qyl
 have h1:=(Vj k p hk hp).eq;by_cases h:xS k p=MZ
 ·rw[if_pos h];rw[if_pos ((LU k p).1 h)] at h1;simp only[T.run,h1];rfl
 simp_all [if_neg,LU,T.run]
theorem oU(m:Q8)(h:Vf m.fe):(Qha m).o=some (2,m.fe.fm+1,[⟨1,m.fe.fm,m.fe.fA++Um m.fe⟩],(My 2 m.fe.fk).fE,(My 2 m.fe.fk).fY,(My 2 m.fe.fk).fL):=by
 refine Qy.eq ?_;show Ok (Qj9 m) _;unfold Qj9;refine Ok.v (SJ m h.fr) λr hr=>?_;subst hr;refine Ok.k ?_ (Ok.c (ON 2 1 _ m h.nw (by have:=h.sd;omega)) λr hr=>Ok.d ?_)
 ·rw[F4,h.rn];decide
 grind
theorem TN{P:Program}{G:zi}{ρ:Type}{g:T P G ρ}{x:ρ}(h:Ok g (λr=>r=x)):g.run=some x:=by obtain⟨r,h1,rfl⟩:=h;exact h1
theorem Qh2{b:ze}(h:b.size=32):((b.size:Int)==32)=true:=by rw[h];rfl
theorem Qw7{b:ze}(h:b.size≠32):((b.size:Int)==32)=false:=by simp;omega
theorem Qqh(b:ze)(m:Q8)(h:Vf m.fe)(hb:b.size<=4000):(vI b m).o=some (if b.size≠32 then .inr 5 else if ¬m.fe.fm < 7 then .inr 3 else .inl (3,m.fe.fm+1,Jm 1 (m.fe.fA++Um m.fe++b),[⟨1,m.fe.fm,m.fe.fA++Um m.fe++b⟩],(My 3 m.fe.fk).fE,(My 3 m.fe.fk).fY,(My 3 m.fe.fk).fL)):=by
 show (Qj2 b m).run=_;refine TN ?_;unfold Qj2;by_cases hb:b.size=32
 rotate_left
 ·rw[if_pos hb];exact Ok.Yz (Qw7 hb) (Ok.d rfl)
 rw[if_neg (by simpa using hb)];refine Ok.Zf (Qh2 hb) ?_;by_cases hs:m.fe.fm < 7
 rotate_left
 ·rw[if_pos hs];exact Ok.Yz (qe hs) (Ok.d rfl)
 rw[if_neg (by simpa using hs)];refine Ok.Zf (we hs) ?_;have sd:=h.sd;have hz:(m.fe.fA++Um m.fe).size=64:=by rw[ByteArray.size_append,F4,h.rn]
 refine Ok.v (SJ m h.fr) λr hr=>?_;subst hr;refine Ok.k (by grind) (Ok.k (by grind) (Ok.c (ON 3 1 _ ⟨m.fe,m.QY,m.QL⟩ h.nw (by grind)) λr hr=>?_));subst hr;refine Ok.c (ZV ⟨1,m.fe.fm,m.fe.fA++Um m.fe++b⟩ _ (by grind) (show (0:Nat)<=100000 by decide)) λr hr=>Ok.d ?_;grind [ByteArray.empty_append,ByteArray.empty]
theorem Qes(b:ze)(m:Q8)(h:Vf m.fe):(Qhd b m).o=some (if b.size≠32 then .inr (false,5) else if b≠O7 m.fe.fF DC m.fe.fD then .inr (true,9) else .inl (m.fe.fD++Jm 5 b,-1,0,0)):=by
 show (Qj0 b m).run=_;refine TN ?_;unfold Qj0;by_cases hb:b.size=32
 rotate_left
 ·rw[if_pos hb];exact Ok.Yz (Qw7 hb) (Ok.d rfl)
 rw[if_neg (by simpa using hb)];refine Ok.Zf (Qh2 hb) (Ok.v (Xc m DC m.fe.fD (by have:=h.ma;omega) (by decide) (by have:=h.td;omega)) λr hr=>?_);subst hr;by_cases hc:b=O7 m.fe.fF DC m.fe.fD
 ·rw[if_neg (by simpa using hc)];refine Ok.f (by grind) (Ok.c (ZV ⟨5,0,b⟩ ⟨m.fe,m.QY,m.QL⟩ (by grind) (show m.fe.fD.size<=100000 by have:=h.td;omega)) λr hr=>Ok.c Fo λr2 hr2=>Ok.d ?_);subst hr hr2;rfl
 ·rw[if_pos hc];exact Ok.t (by grind) (Ok.o (r:=()) rfl (Ok.Hn (Ok.d rfl)))
theorem Quv(m:Q8)(h:Vf m.fe):(Qhx m).o=some (bif !(Hj m.fe.fy m.fe.fk).1 then .inl (m.fe.fy.fE,m.fe.fy.fY,m.fe.fy.fL,m.QL) else bif (GH m.fe.fy m.fe.fk).2 != 0 then .inr () else .inl ((GH m.fe.fy m.fe.fk).1.fE,(GH m.fe.fy m.fe.fk).1.fY,(GH m.fe.fy m.fe.fk).1.fL,m.fe.fM)):=by
 show (Qj7 m).run=_;refine TN ?_;unfold Qj7
 have e0:(Hj m.fe.fy m.fe.fk).2=0:=by unfold Hj;rw[h.tm,h.nw];rfl
 refine Ok.c (kM m.fe.fy m.fe.fk) λr hr=>?_;subst hr;rw[e0];refine Ok.c (lS _) λr hr=>?_;subst hr;refine Ok.e (by grind [Ok.d]) λhc=>?_;rw[hc,cond_false];refine Ok.c (kD m.fe.fy m.fe.fk) λr hr=>?_;subst hr;refine Ok.e (λhd=>?_) (by grind [Ok.d]);rw[hd,cond_true];exact Ok.o (r:=()) rfl (Ok.Hn (Ok.d rfl))
def pK(s:Q2)(b:ze):(Q2×List Z0)⊕(ze×ze×ze×Bool×Int)->Prop
 | .inl r=>X5 s b=.inl r
 | .inr q=>X5 s b=.inr (q.2.2.2.1,q.q)
theorem rV(b:ze)(m:Q8)(h:Vf m.fe)(hb:b.size<=4000):Ok (Qj1 b m) (pK m.fe b):=by
 have inl:∀r,X5 m.fe b=.inl r->pK m.fe b (.inl r):=λ_ h=>h
 have inr:∀q,X5 m.fe b=.inr (q.2.2.2.1,q.q)->pK m.fe b (.inr q):=λ_ h=>h;generalize hQ:pK m.fe b=Q at *
 clear hQ;unfold Qj1;unfold X5 at inl inr;by_cases h64:64 < b.size
 rotate_left
 ·rw[if_pos h64] at inr;exact Ok.Yz (by grind) (Ok.d (inr _ rfl))
 rw[if_neg (by grind)] at inl inr;have c2:(decide (0<=(64:Int))&&decide ((64:Int)<=(b.size:Int)))=true:=by simp;omega
 have c3:(decide (0<=(32:Int))&&decide ((32:Int)<=(b.size:Int)))=true:=by simp;omega
 have hx:(b.extract 64 b.size).size=b.size - 64:=by simp_all
 have z1:(b.extract 0 32).size=32:=by rw[ByteArray.size_extract];omega
 have z2:(b.extract 32 64).size=32:=by rw[ByteArray.size_extract];omega
 have e1:=CT (b.extract 64 b.size) m (by omega);refine Ok.Zf (we (by omega)) (Ok.k c2 ?_);cases ho:okB (b.extract 64 b.size) with
 | false=>
  rw[ho,if_pos rfl] at e1 inr;exact Ok.QX e1 (Ok.d (inr _ rfl))
 | true=>
  rw[ho,if_neg (by decide)] at e1 inr inl;generalize T8 (QI (b.extract 64 b.size)) m.fe.fJ m.fe.fk=acc at *
  by_cases ha:acc=0
  rotate_left
  ·rw[if_pos ha] at e1 inr;exact Ok.QX e1 (Ok.d (inr _ rfl))
  rw[if_neg (by simpa using ha)] at e1 inr inl;have hb2:=(T0 ho).2;have kz:=(MB ho).1;have f1:=Xn m.fe.fZ (QI (b.extract 64 b.size)).fH h.fr kz;have f2:=Xn m.fe.gc (b.extract 32 64) h.sc z2;refine Ok.QB e1 (Ok.k c3 (Ok.k (by rw[c2];rfl) (Ok.k c2 ?_)));by_cases s1:xS m.fe.fZ (QI (b.extract 64 b.size)).fH=MZ
  ·rw[if_pos (Or.inl s1)] at inr;rw[if_pos s1] at f1;exact Ok.QX f1 (Ok.d (inr _ rfl))
  rw[if_neg s1] at f1;refine Ok.QB f1 ?_;by_cases s2:xS m.fe.gc (b.extract 32 64)=MZ
  ·rw[if_pos (Or.inr s2)] at inr;rw[if_pos s2] at f2;exact Ok.QX f2 (Ok.d (inr _ rfl))
  rw[if_neg (λq=>q.elim s1 s2)] at inl;rw[if_neg s2] at f2;refine Ok.QB f2 ?_;have td:=h.td;have bz:=h.bz;have sd:=h.sd;have tz:(WW m.fe b).size<=600:=by grind [ByteArray.size_append,K6,WW]
  have mz:(Dr m.fe b).size=32:=Dk _ _ _;refine Ok.c (Cd _ _ _ _ _ (by rw[ZI];decide) (by rw[ZI];decide) (by rw[h.rn];decide) (by grind)) λr hr=>?_;rw[show r=Dr m.fe b from hr];clear hr;refine Ok.c (ZV ⟨3,0,b⟩ _ (show b.size<=100000 by omega) (show m.fe.fD.size<=100000 by omega)) λr hr=>?_;rw[show r=WW m.fe b from hr];clear hr
  have tz2:(WW m.fe b++m.fe.fh).size<=700:=by rw[ByteArray.size_append];omega
  refine Ok.k (by rw[zI];omega) (Ok.v (Xc _ Ks (WW m.fe b++m.fe.fh) (show (Dr m.fe b).size<=100 by omega) (by decide) (by omega)) λr hr=>?_);rw[show r=O7 (Dr m.fe b) Ks (WW m.fe b++m.fe.fh) from hr];clear hr;refine Ok.k (by rw[zI,X2];omega) (Ok.c (ON 5 4 (Hd m.fe b) _ h.nw (show 0<=m.fe.fm/\m.fe.fm<=100 by omega)) λr hr=>?_);subst hr;refine Ok.c (ZV ⟨4,m.fe.fm,Hd m.fe b⟩ _ (show (Hd m.fe b).size<=100000 by unfold Hd;rw[ByteArray.size_append,X2];omega) (show (WW m.fe b).size<=100000 by omega)) λr hr=>Ok.d (inl _ ?_);rw[hr];rfl
def pJ(s:Q2)(f b:ze):(Q2×List Z0)⊕Int->Prop
 | .inl r=>R3 s f b=.inl r
 | .inr e=>R3 s f b=.inr (false,e)
theorem Qyj(b:ze)(m:Q8)(h:Vf m.fe)(hf:m.QY.size<=64):Ok (Qyv b m) (pJ m.fe m.QY b):=by
 have inl:∀r,R3 m.fe m.QY b=.inl r->pJ m.fe m.QY b (.inl r):=λ_ h=>h
 have inr:∀e,R3 m.fe m.QY b=.inr (false,e)->pJ m.fe m.QY b (.inr e):=λ_ h=>h;generalize hQ:pJ m.fe m.QY b=Q at *
 clear hQ;unfold Qyv;unfold R3 at inl inr;have td:=h.td;have bz:=h.bz;have sd:=h.sd;have ck:=h.ck;by_cases hz:b.size=64\/b.size=96
 rotate_left
 ·have n1:((b.size:Int)==64)=false:=by simp;omega
  have n2:((b.size:Int)==96)=false:=by simp;omega
  rw[if_pos ⟨λe=>hz (.inl e),λe=>hz (.inr e)⟩] at inr;exact Ok.f n1 (Ok.Yz n2 (Ok.d (inr _ rfl)))
 rw[if_neg (λq=>hz.elim q.1 q.2)] at inl inr;have c2:(decide (0<=(64:Int))&&decide ((64:Int)<=(b.size:Int)))=true:=by simp;omega
 have c3:(decide (0<=(32:Int))&&decide ((32:Int)<=(b.size:Int)))=true:=by simp;omega
 have z0:(b.extract 0 64).size=64:=by rw[ByteArray.size_extract];omega
 have zf:(m.QY++b.extract 0 64).size<=128:=by grind
 have om:=kI m.fe.gb (m.QY++b.extract 0 64) (by omega) (by omega);generalize hM:ZU m.fe.gb (m.QY++b.extract 0 64)=M at *
 have zr:(m.fe.fA++Um m.fe).size=64:=by rw[ByteArray.size_append,F4,h.rn]
 have zt:(Dj m.fe b).size<=600:=by grind [ByteArray.size_append,K6,Dj]
 have zb:(HZ m.fe).size<=200:=by grind [ByteArray.size_append,HZ]
 refine Ok.e (λ_=>Ok.Zf rfl ?_) λhn=>Ok.Zf (by grind) ?_;all_goals
  refine Ok.k c2 (Ok.k (by grind) (Ok.c om λr hr=>?_));subst hr;refine Ok.c (WN _) λr hr=>?_;subst hr;refine Ok.k c2 ?_;by_cases hc:b.extract 64 b.size=r
  ·rw[if_neg (by simpa using hc)] at inl;refine Ok.f (by grind) (Ok.k c3 (Ok.k (by rw[c2];rfl) (Ok.c (ZV ⟨1,0,b⟩ _ (show b.size<=100000 by omega) (show m.fe.fD.size<=100000 by omega)) λr2 hr2=>?_)));rw[show r2=Dj m.fe b from hr2];clear hr2;refine Ok.v (SJ _ (show m.fe.fZ.size=32 from h.fr)) λp hp=>?_;rw[show p=Um m.fe from hp];clear hp;refine Ok.k (by grind) (Ok.k (by grind) (Ok.c (ON 4 3 (HZ m.fe) _ h.nw (by grind)) λq hq=>?_));subst hq;refine Ok.c (ZV ⟨3,m.fe.fm,HZ m.fe⟩ _ (show (HZ m.fe).size<=100000 by omega) (show (Dj m.fe b).size<=100000 by omega)) λq hq=>Ok.d (inl _ ?_);rw[hq];rfl
  ·rw[if_pos hc] at inl inr;refine Ok.t (by grind) ?_;by_cases hs:m.fe.fm < 6
   ·rw[if_neg (by simpa using hs)] at inl;refine Ok.Zf (we hs) (Ok.c (ON 1 2 r ⟨m.fe,m.QY,m.QL⟩ h.nw (show 0<=m.fe.fm/\m.fe.fm<=100 by omega)) λq hq=>Ok.d (inl _ ?_));subst hq;rfl
   ·rw[if_pos hs] at inr;exact Ok.Yz (qe hs) (Ok.d (inr _ rfl))
def pY(s:Q2)(b:ze):(Int×Int×ze×ze×ze×List Z0×Int×Int×Int)⊕(ze×Bool×Int)->Prop
 | .inl r=>F8 s b=.inl ({ s with fo:=r.1,fm:=r.2.1,fD:=r.2.2.1,fj:=⟨s.fj.fA,s.fj.fQ,r.2.2.2.1⟩,fF:=r.q.1,fM:=r.q.2.1,fy:=⟨r.q.2.2.1,r.q.2.2.2.1,r.q.q⟩ },r.q.2.1)
 | .inr q=>F8 s b=.inr (q.2.1,q.2.2)
theorem Qqe(b:ze)(m:Q8)(h:Vf m.fe)(hb:b.size<=4000)(hp:m.fe.fj.fQ.size=32):Ok (Qyt b m) (pY m.fe b):=by
 have inl:∀r,F8 m.fe b=.inl ({ m.fe with fo:=r.1,fm:=r.2.1,fD:=r.2.2.1,fj:=⟨m.fe.fj.fA,m.fe.fj.fQ,r.2.2.2.1⟩,fF:=r.q.1,fM:=r.q.2.1,fy:=⟨r.q.2.2.1,r.q.2.2.2.1,r.q.q⟩ },r.q.2.1)->pY m.fe b (.inl r):=λ_ h=>h
 have inr:∀q,F8 m.fe b=.inr (q.2.1,q.2.2)->pY m.fe b (.inr q):=λ_ h=>h;generalize hQ:pY m.fe b=Q at *
 clear hQ;unfold Qyt;unfold F8 at inl inr;by_cases h64:32 < b.size
 rotate_left
 ·rw[if_pos h64] at inr;exact Ok.Yz (by grind) (Ok.d (inr _ rfl))
 rw[if_neg (by grind)] at inl inr;have c3:(decide (0<=(32:Int))&&decide ((32:Int)<=(b.size:Int)))=true:=by simp;omega
 have hx:(b.extract 32 b.size).size=b.size - 32:=by rw[ByteArray.size_extract];omega
 have e1:=CT (b.extract 32 b.size) m (by omega);refine Ok.Zf (we (by omega)) (Ok.k c3 (Ok.k c3 ?_));cases ho:okB (b.extract 32 b.size) with
 | false=>
  rw[ho,if_pos rfl] at e1 inr;exact Ok.QX e1 (Ok.d (inr _ rfl))
 | true=>
  rw[ho,if_neg (by decide)] at e1 inr inl;generalize T8 (QI (b.extract 32 b.size)) m.fe.fJ m.fe.fk=acc at *
  by_cases ha:acc=0
  rotate_left
  ·rw[if_pos ha] at e1 inr;exact Ok.QX e1 (Ok.d (inr _ rfl))
  rw[if_neg (by simpa using ha)] at e1 inr inl;have hb2:=(T0 ho).2;have kz:=(MB ho).1;have f1:=Xn m.fe.gc m.fe.fj.fQ h.sc hp;have f2:=Xn m.fe.fZ (QI (b.extract 32 b.size)).fH h.fr kz;refine Ok.QB e1 ?_;by_cases s1:xS m.fe.gc m.fe.fj.fQ=MZ
  ·rw[if_pos (Or.inl s1)] at inr;rw[if_pos s1] at f1;exact Ok.QX f1 (Ok.d (inr _ rfl))
  rw[if_neg s1] at f1;refine Ok.QB f1 ?_;by_cases s2:xS m.fe.fZ (QI (b.extract 32 b.size)).fH=MZ
  ·rw[if_pos (Or.inr s2)] at inr;rw[if_pos s2] at f2;exact Ok.QX f2 (Ok.d (inr _ rfl))
  rw[if_neg (λq=>q.elim s1 s2)] at inl inr;rw[if_neg s2] at f2;refine Ok.QB f2 ?_;have td:=h.td;have bz:=h.bz;have sd:=h.sd;have pr:=h.pp.2;have mz:(Kn m.fe b).size=32:=Dk _ _ _;refine Ok.c (Cd _ _ _ _ _ (by rw[ZI];decide) (by rw[ZI];decide) (by omega) (by rw[h.rn];decide)) λr hr=>?_;rw[show r=Kn m.fe b from hr];clear hr;have tz0:(m.fe.fD++b.extract 32 b.size).size<=1000:=by grind
  refine Ok.k (by grind) (Ok.v (Xc _ Ks (m.fe.fD++b.extract 32 b.size) (by grind) (by decide) (by omega)) λr hr=>?_);have hr:r=O7 (Kn m.fe b) Ks (m.fe.fD++b.extract 32 b.size):=hr;rw[<-hr] at inl inr;clear hr;by_cases hc:b.extract 0 32=r
  rotate_left
  ·rw[if_pos hc] at inr;exact Ok.t (by grind) (Ok.o (r:=()) rfl (Ok.Hn (Ok.d (inr _ rfl))))
  rw[if_neg (by simpa using hc)] at inl;refine Ok.f (by grind) (Ok.c (ZV ⟨4,0,b⟩ _ (show b.size<=100000 by omega) (show m.fe.fD.size<=100000 by omega)) λt ht=>?_);rw[show t=Me m.fe b from ht];clear ht;have tz:(Me m.fe b).size<=1000:=by unfold Me;rw[ByteArray.size_append,K6];omega
  have zc:(Hb m.fe b).size=32:=X2 _ _ _;refine Ok.v (Xc _ DC (Me m.fe b) (show (Kn m.fe b).size<=100 by omega) (by decide) (by omega)) λc hc=>?_;rw[show c=Hb m.fe b from hc];clear hc;refine Ok.c (ON 6 5 (Hb m.fe b) _ h.nw (show 0<=m.fe.fm/\m.fe.fm<=100 by omega)) λq hq=>?_;subst hq;refine Ok.c (ZV ⟨5,m.fe.fm,Hb m.fe b⟩ _ (show (Hb m.fe b).size<=100000 by omega) (show (Me m.fe b).size<=100000 by omega)) λq hq=>Ok.d (inl _ ?_);rw[hq];rfl
def pU(s:Q2)(f:ze)(n:Z0):(Q2×List Z0)⊕(ze×ze×ze×ze×Bool×Int)->Prop
 | .inl r=>H5 s f n=.inl r
 | .inr q=>H5 s f n=.inr (q.q.1,q.q.2)
theorem EH{p:Q8}{n:Z0}{f:FuncId}{a b c:Int}{x0 h0 hk hf}(h:Oa p.fe.fq p.fe.fo n.fw [QW a,QW b,QW c]=true):(DZ p n f a b c x0 h0 hk hf).o=some ():=by
 grind [DZ]
theorem rJ(n:Z0)(m:Q8)(h:Vf m.fe)(hf:m.QY.size<=64)(hn:n.fI.size<=4000)(hs:m.QL=[]):Ok (Qj8 n m) (pU m.fe m.QY n):=by
 have inl:∀r,H5 m.fe m.QY n=.inl r->pU m.fe m.QY n (.inl r):=λ_ h=>h
 have inr:∀q,H5 m.fe m.QY n=.inr (q.q.1,q.q.2)->pU m.fe m.QY n (.inr q):=λ_ h=>h;generalize hQ:pU m.fe m.QY n=Q at *
 clear hQ;unfold Qj8;have q3:∀{a b c:Int} {r:Bool},Oa m.fe.fq m.fe.fo n.fw [QW a,QW b,QW c]=r->(r=true->m.fe.fq=a/\m.fe.fo=b/\n.fw=c)/\(r=false->¬(m.fe.fq=a/\m.fe.fo=b/\n.fw=c)):=(by grind [FR]);have rP:=Qqh n.fI m h hn;refine Ok.e (λh0=>?_) λh0=>Ok.e (λh1=>?_) λh1=>Ok.e (λh2=>?_) λh2=>Ok.e (λh3=>?_) λh3=>Ok.e (λh4=>?_) λh4=>Ok.e (λh5=>?_) λh5=>?_
 ·obtain⟨a,b,c⟩:=(q3 h0).1 rfl;have e:H5 m.fe m.QY n=ZQ m.fe n.fI:=by simp_all [if_pos,H5]
  rw[e] at inl inr;unfold ZQ at inl inr;refine Ok.t rfl (Ok.IF (r:=()) (EH h0) (Ok.Zf rfl ?_));by_cases z:n.fI.size≠32
  ·rw[if_pos z] at rP inr;exact Ok.QX rP (Ok.d (inr _ rfl))
  rw[if_neg z] at rP inr inl;by_cases z2:¬m.fe.fm < 7
  ·rw[if_pos z2] at rP inr;exact Ok.QX rP (Ok.d (inr _ rfl))
  rw[if_neg z2] at rP inr inl;exact Ok.QB rP (Ok.d (inl _ rfl))
 ·obtain⟨a,b,c⟩:=(q3 h1).1 rfl;have e:H5 m.fe m.QY n=ZQ m.fe n.fI:=by simp_all [if_pos,H5]
  rw[e] at inl inr;unfold ZQ at inl inr;refine Ok.t rfl (Ok.IF (r:=()) (EH h1) (Ok.Zf rfl ?_));by_cases z:n.fI.size≠32
  ·rw[if_pos z] at rP inr;exact Ok.QX rP (Ok.d (inr _ rfl))
  rw[if_neg z] at rP inr inl;by_cases z2:¬m.fe.fm < 7
  ·rw[if_pos z2] at rP inr;exact Ok.QX rP (Ok.d (inr _ rfl))
  rw[if_neg z2] at rP inr inl;exact Ok.QB rP (Ok.d (inl _ rfl))
 ·obtain⟨a,b,c⟩:=(q3 h2).1 rfl;have e:H5 m.fe m.QY n=X5 m.fe n.fI:=by
   simp_all [if_neg,if_pos,H5]
  rw[e] at inl inr;refine Ok.t rfl (Ok.IF (r:=()) (EH h2) (Ok.Zf rfl ?_));obtain⟨x,x1,x2⟩:=rV n.fI m h hn;cases x with
  | inl r=>exact Ok.QB (show (vA n.fI m).o=_ from x1) (Ok.d (inl _ x2))
  | inr r=>exact Ok.QX (show (vA n.fI m).o=_ from x1) (Ok.d (inr _ x2))
 ·obtain⟨a,b,c⟩:=(q3 h3).1 rfl;have e:H5 m.fe m.QY n=JQ m.fe n.fI:=by
   simp_all [if_neg,if_pos,H5]
  rw[e] at inl inr;unfold JQ at inl inr;refine Ok.t rfl (Ok.IF (r:=()) (EH h3) (Ok.Zf rfl ?_));have dP:=Qes n.fI m h;by_cases z:n.fI.size≠32
  ·rw[if_pos z] at dP inr;exact Ok.QX dP (Ok.d (inr _ rfl))
  rw[if_neg z] at dP inr inl;by_cases z2:n.fI≠O7 m.fe.fF DC m.fe.fD
  ·rw[if_pos z2] at dP inr;exact Ok.QX dP (Ok.d (inr _ rfl))
  rw[if_neg z2] at dP inr inl;exact Ok.QB dP (Ok.g (Ok.d (inl _ (by rw[hs];rfl))))
 ·obtain⟨a,b,c⟩:=(q3 h4).1 rfl;have e:H5 m.fe m.QY n=R3 m.fe m.QY n.fI:=by
   simp_all [if_neg,if_pos,H5]
  rw[e] at inl inr;refine Ok.t rfl (Ok.IF (r:=()) (EH h4) (Ok.Zf rfl ?_));obtain⟨x,x1,x2⟩:=Qyj n.fI m h hf;cases x with
  | inl r=>exact Ok.QB (show (vX n.fI m).o=_ from x1) (Ok.d (inl _ x2))
  | inr r=>exact Ok.QX (show (vX n.fI m).o=_ from x1) (Ok.d (inr _ x2))
 ·obtain⟨a,b,c⟩:=(q3 h5).1 rfl;have e:H5 m.fe m.QY n=F8 m.fe n.fI:=by
   simp_all [if_neg,if_pos,H5]
  rw[e] at inl inr;refine Ok.t rfl (Ok.IF (r:=()) (EH h5) (Ok.Zf rfl ?_));obtain⟨x,x1,x2⟩:=Qqe n.fI m h hn (h.lk a b);cases x with
  | inl r=>exact Ok.QB (show (vD n.fI m).o=_ from x1) (Ok.d (inl _ x2))
  | inr r=>exact Ok.QX (show (vD n.fI m).o=_ from x1) (Ok.d (inr _ x2))
 ·have n0:=(q3 h0).2 rfl
  have n1:=(q3 h1).2 rfl
  have n2:=(q3 h2).2 rfl
  have n3:=(q3 h3).2 rfl
  have n4:=(q3 h4).2 rfl
  have n5:=(q3 h5).2 rfl
  have e:H5 m.fe m.QY n=.inr (false,8):=by
   unfold H5;grind
  rw[e] at inl inr;refine Ok.t rfl (Ok.IF (r:=()) ?_ (Ok.Yz rfl (Ok.d (inr _ rfl))));grind [yL,Oa,X9]
def EvR(s:Q2)(v:Q6):(Q2×List Z0)⊕(ze×ze×ze×ze×Bool×Int)->Prop
 | .inl r=>HY s v=.inl r
 | .inr q=>HY s v=.inr (q.q.1,q.q.2)
theorem Qic(v:Q6)(m:Q8)(h:Vf m.fe)(hf:m.QY=v.fC)(hf2:v.fC.size<=64)(hn:v.fw=2->v.fO.fI.size<=4000)(hs:m.QL=[])(hk:1<=v.fw/\v.fw<=4):Ok (eQ m v) (EvR m.fe v):=by
 have inl:∀r,HY m.fe v=.inl r->EvR m.fe v (.inl r):=λ_ h=>h
 have inr:∀q,HY m.fe v=.inr (q.q.1,q.q.2)->EvR m.fe v (.inr q):=λ_ h=>h;generalize hQ:EvR m.fe v=Q at *
 clear hQ;unfold eQ;unfold HY at inl inr;refine Ok.e (λh1=>?_) λh1=>?_
 ·rw[if_pos (by simpa using h1)] at inl inr;unfold KR at inl inr;refine Ok.e (λh2=>?_) λh2=>?_
  ·rw[h2,Bool.true_and] at inl inr;cases h3:(m.fe.fo==1) with
   | true=>
    rw[h3,cond_true] at inl;exact Ok.Zf rfl (Ok.c (Qy.o (oU m h)) λr hr=>Ok.d (inl _ (by rw[hr];rfl)))
   | false=>
    rw[h3,cond_false] at inr;exact Ok.Yz rfl (Ok.d (inr _ rfl))
  ·rw[h2,Bool.false_and,cond_false] at inr;exact Ok.Yz rfl (Ok.d (inr _ rfl))
 rw[if_neg (by simpa using h1)] at inl inr;refine Ok.e (λh2=>?_) λh2=>?_
 ·have h2:v.fw=2:=by simpa using h2
  rw[if_pos h2] at inl inr;obtain⟨x,x1,x2⟩:=rJ v.fO m h (by rw[hf];exact hf2) (hn h2) hs;rw[hf] at x2;cases x with
  | inl r=>exact Ok.QB (show (Qq8 v.fO m).o=_ from x1) (Ok.d (inl _ x2))
  | inr r=>exact Ok.QX (show (Qq8 v.fO m).o=_ from x1) (Ok.d (inr _ x2))
 rw[if_neg (by simpa using h2)] at inl inr;refine Ok.e (λh3=>?_) λh3=>?_
 ·rw[if_pos (by simpa using h3)] at inl inr;have tP:=Quv m h;unfold XB at inl inr;cases hd:(!(Hj m.fe.fy m.fe.fk).1) with
  | true=>
   simp_all [cond_true,Ok.QB,Ok.d]
  | false=>
   rw[hd,cond_false] at tP inl inr;cases ha:((GH m.fe.fy m.fe.fk).2 != 0) with
   | true=>
    rw[ha,cond_true] at tP inr;exact Ok.QX tP (Ok.d (inr _ rfl))
   | false=>
    rw[ha,cond_false] at tP inl;exact Ok.QB tP (Ok.d (inl _ rfl))
 rw[if_neg (by simpa using h3)] at inl inr;grind [Ok.t,Ok.e,Ok.d]
theorem Qew(e:Int)(m:Q8):(rU m e).run=some (-1,0,0):=by
 have h1:(Qhi e m).o=some (-1,0,0):=by
  refine Qy.eq ?_;show Ok (Qjq e m) _;unfold Qjq;exact Ok.c Fo λr hr=>Ok.d (by rw[hr];rfl)
 refine TN ?_;unfold rU;exact Ok.o (r:=()) rfl (Ok.ff (Ok.o (r:=()) rfl (Ok.tt (Ok.c (Qy.o h1) λr hr=>Ok.g (Ok.d hr)))))
theorem Qji(v:Q6)(s:Q2)(h:Vf s)(hf2:v.fC.size<=64)(hn:v.fw=2->v.fO.fI.size<=4000)(hk:1<=v.fw/\v.fw<=4) :
  evR ⟨s,v.fC,[]⟩ v=some (match HY s v with|.inl r=>.inl ⟨r.1,v.fC,r.2⟩|.inr (true,e)=>.inl ⟨Yt s e,v.fC,[]⟩|.inr (false,e)=>.inr e):=by
 obtain⟨x,x1,x2⟩:=Qic v ⟨s,v.fC,[]⟩ h rfl hf2 hn rfl hk;unfold evR;rw[x1];cases x with
 | inl r=>
  rw[show HY s v=.inl r from x2];rfl
 | inr q=>
  obtain⟨q1,q2,q3,q4,q5,q6⟩:=q;rw[show HY s v=.inr (q5,q6) from x2];cases q5 with
  | true=>
   simp only[cond_true,Qew];rfl
  | false=>rfl
theorem NI(l:List ze)(h:l.length<=100000):(s60 l).o=some ():=by
 show (g60 l).run=_;refine TN ?_;unfold g60;exact Ok.app (by grind) (Ok.d rfl)
theorem Ww(l:List Z0)(h:l.length<=100000):(s61 l).o=some ():=by
 show (g61 l).run=_;refine TN ?_;unfold g61;exact Ok.app (by grind) (Ok.d rfl)
def Qhy:(Q2×List Z0)⊕(Bool×Int)->Q2×List Z0×Int
 | .inl r=>yC r
 | .inr r=>(PA,[],r.2)
theorem Vf.at{s:Q2}(h:Vf s){n:Int}(hn:V0 n=true):Vf { s with fk:=n }:=⟨hn,h.sc,h.fr,h.rn,h.ck,h.bd,h.bz,h.pl,h.ps,h.sd,h.td,h.tm,h.pb,h.pp,h.ma,h.ll,h.lk⟩
theorem Qei(s:Q2)(v:Q6)(h:s.fM.length<=1):∀r,HY s v=.inl r->r.2.length<=1:=by
 intro r hr;have sh:∀(x:Out),(∀q,x=.inl q->q.2.length<=1)->x=.inl r->r.2.length<=1:=λx hx he=>hx r he;unfold HY at hr;split at hr
 ·unfold KR at hr;cases hc:(s.fq==1&&s.fo==1)<;>rw[hc] at hr<;>simp at hr;rw[<-hr];simp
 split at hr
 ·unfold H5 at hr;split at hr
  ·unfold ZQ at hr
   (repeat' split at hr)<;>simp at hr
   rw[<-hr];simp
  split at hr
  ·unfold X5 at hr
   (repeat' split at hr)<;>simp at hr
   rw[<-hr];simp
  split at hr
  ·unfold JQ at hr
   (repeat' split at hr)<;>simp at hr
   rw[<-hr];simp
  split at hr
  ·unfold R3 at hr
   (repeat' split at hr)<;>simp at hr<;>(rw[<-hr];simp)
  split at hr
  ·unfold F8 at hr
   (repeat' split at hr)<;>simp at hr
   rw[<-hr];simp
  ·simp at hr
 split at hr
 ·unfold XB at hr;cases hc:(!(Hj s.fy s.fk).1)<;>rw[hc] at hr
  ·rw[cond_false] at hr;cases hd:((GH s.fy s.fk).2 != 0)<;>rw[hd] at hr<;>simp at hr;rw[<-hr];exact h
  ·simp at hr;rw[<-hr];simp
 ·simp at hr;rw[<-hr];cases (s.fq==2)
  ·simp
  ·exact h
theorem ZF(s:Q2)(v:Q6)(hs:Sm s):Qy (jK s v) (λr=>r=U3 s v):=by
 have key:Ok (mV s v) (λq=>Qhy q=U3 s v):=by
  unfold mV;refine Ok.c (AW s hs) λr hr=>?_;subst hr;unfold U3;cases hv:QZ s with
  | false=>exact Ok.Yz rfl (Ok.d rfl)
  | true=>
   refine Ok.Zf rfl ?_;rw[cond_true];have vf:=G4 hv;unfold dM;refine Ok.e (λc1=>?_) λc1=>Ok.Yz rfl (Ok.d (by rw[c1];rfl));refine Ok.e (λc2=>?_) λc2=>Ok.Yz rfl (Ok.d (by rw[c1,c2];rfl));refine Ok.e (λc3=>?_) λc3=>Ok.Yz rfl (Ok.d (by rw[c1,c2,c3];rfl));refine Ok.e (λc4=>?_) λc4=>Ok.Yz rfl (Ok.d (by rw[c1,c2,c3,c4];rfl));cases c5:decide ((v.fC.size:Int)<=64) with
   | false=>exact Ok.Yz rfl (Ok.d (by rw[c1,c2,c3,c4];rfl))
   | true=>
    rw[c1,c2,c3,c4];simp only[Bool.true_and];refine Ok.Zf rfl ?_;have hnw:V0 v.fk=true:=by
     have:=vf.nw;unfold V0 at this ⊢;simp only[zG,zI] at this c3 c4 ⊢;omega
    have vf2:=vf.at hnw
    have hf2:v.fC.size<=64:=by simp at c5;omega
    have hk:1<=v.fw/\v.fw<=4:=by simp at c1 c2;exact⟨c1,c2⟩
    have e1:=NI s.fJ (by have:=vf.pl;omega)
    have e2:=Ww s.fM (by have:=vf.ll;omega)
    have e3:Qy (s59 v.fC) (λr=>r=v.fC):=by
     show Ok (g59 v.fC) _;unfold g59;exact Ok.c (R:=λ_=>True) (show Ok (eR _) _ from Ok.k (by rw[zI];omega) (Ok.d trivial)) λ_ _=>Ok.d rfl
    have evl:=Qei { s with fk:=v.fk } v vf.ll
    have eve:∀(hn:v.fw=2->v.fO.fI.size<=4000),(cS v ⟨{ s with fk:=v.fk },v.fC,[]⟩).o=some (match HY { s with fk:=v.fk } v with|.inl r=>.inl ⟨r.1,v.fC,r.2⟩|.inr (true,e)=>.inl ⟨Yt { s with fk:=v.fk } e,v.fC,[]⟩|.inr (false,e)=>.inr e):=λhn=>Qji v { s with fk:=v.fk } vf2 hf2 hn hk;generalize hE:HY { s with fk:=v.fk } v=E at *
    refine Ok.e (λc6=>?_) λc6=>?_
    ·have k2:v.fw≠2:=by simpa using c6
     have eve:=eve λh=>absurd h k2;refine Ok.Zf rfl (Ok.c e3 λr hr=>?_);subst hr;refine Ok.c (Qy.o e1) λ_ _=>Ok.c (Qy.o e2) λ_ _=>Ok.g (Ok.g (Ok.g ?_));rw[c6,Bool.true_or,cond_true]
     match E,eve,evl with
     | .inl r,eve,evl=>exact Ok.QB eve (Ok.c (Qy.o (Ww r.2 (by have:=evl r rfl;omega))) λ_ _=>Ok.g (Ok.d rfl))
     | .inr (true,e),eve,evl=>exact Ok.QB eve (Ok.c (Qy.o (Ww [] (by simp))) λ_ _=>Ok.g (Ok.d rfl))
     | .inr (false,e),eve,evl=>exact Ok.QX eve (Ok.d rfl)
    ·refine Ok.c (ND v.fO) λr hr=>?_;rw[c6,Bool.false_or];cases hn:B3 v.fO with
     | false=>
      rw[hn] at hr;subst hr;exact Ok.Yz rfl (Ok.d rfl)
     | true=>
      rw[hn] at hr;subst hr;have eve:=eve λ_=>by
       unfold B3 at hn;simp only[zG,zI] at hn;omega
      refine Ok.Zf rfl (Ok.c e3 λr hr=>?_);subst hr;refine Ok.c (Qy.o e1) λ_ _=>Ok.c (Qy.o e2) λ_ _=>Ok.g (Ok.g (Ok.g ?_));rw[cond_true]
      match E,eve,evl with
      | .inl r,eve,evl=>exact Ok.QB eve (Ok.c (Qy.o (Ww r.2 (by have:=evl r rfl;omega))) λ_ _=>Ok.g (Ok.d rfl))
      | .inr (true,e),eve,evl=>exact Ok.QB eve (Ok.c (Qy.o (Ww [] (by simp))) λ_ _=>Ok.g (Ok.d rfl))
      | .inr (false,e),eve,evl=>exact Ok.QX eve (Ok.d rfl)
 obtain⟨q,h1,h2⟩:=key;refine⟨U3 s v,?_,rfl⟩;show stM s v=_;unfold stM;rw[h1,<-h2];cases q<;>rfl
def Je(side:Int)(sec bdg fr rn ck:ze)(ps:List ze)(now:Int):Q2:=⟨side,1,now,sec,bdg,fr,rn,ck,ps,0,zg,⟨zg,zg,zg⟩,zg,[],oW,0⟩
def FW(side:Int)(sec bdg fr rn ck:ze)(ps:List ze)(now:Int):Q2×Int:=
 bif QZ (Je side sec bdg fr rn ck ps now) then bif decide ((QI bdg).fH=xS sec V4) then (Je side sec bdg fr rn ck ps now,0) else (PA,2) else (PA,2)
theorem SU(side:Int)(sec bdg fr rn ck:ze)(ps:List ze)(now:Int)(h:Sm (Je side sec bdg fr rn ck ps now)):Qy (s30 side sec bdg fr rn ck ps now) (λr=>r=FW side sec bdg fr rn ck ps now):=by
 show Ok (g30 side sec bdg fr rn ck ps now) _;unfold g30 FW;refine Ok.c (Qy.o (NI ps (by have:=h.pr;show ps.length<=_;exact Nat.le_trans this (by decide)))) λ_ _=>Ok.c Fo λr hr=>?_;subst hr;refine Ok.v (AW (Je side sec bdg fr rn ck ps now) h) λr hr=>?_;subst hr;cases hv:QZ (Je side sec bdg fr rn ck ps now) with
 | false=>exact Ok.t rfl (Ok.d rfl)
 | true=>
  have vf:=G4 hv
  have ho:okB bdg=true:=vf.bd;refine Ok.f rfl (Ok.c (WB bdg (by have:bdg.size<=86:=vf.bz;omega)) λr hr=>Ok.c (Uf sec) λr2 hr2=>?_);rw[if_pos (show sec.size=32 from vf.sc)] at hr2
  have hr:r.1=QI bdg:=by rw[hr];unfold JL;rw[ho];rfl
  subst hr2;rw[hr];generalize xS sec V4=P;generalize (QI bdg).fH=K;refine Ok.n (R:=λc=>c=!decide (K=P)) (Ok.f rfl (Ok.d (by rw[Bool.eq_iff_iff];simp;exact⟨λh e=>h e.symm,λh e=>h e.symm⟩))) λc hc=>?_;subst hc;cases hk:decide (K=P) with
  | false=>exact Ok.t rfl (Ok.d rfl)
  | true=>exact Ok.f rfl (Ok.g (Ok.d rfl))
theorem hC(side:Int)(sec bdg fr rn ck:ze)(ps:List ze)(now:Int)(h:Sm (Je side sec bdg fr rn ck ps now)):Qy (iE side sec bdg fr rn ck ps now) (λr=>r=FW side sec bdg fr rn ck ps now):=by
 show Ok (g31 side sec bdg fr rn ck ps now) _;unfold g31 FW;refine Ok.c Vz λr hr=>?_;subst hr
 have hp:ps.length<=1000:=h.pr;refine Ok.app (show (0+ps.length) * 16<=140737488355328 by omega) (Ok.v (Sv (Je side sec bdg fr rn ck ps now) h) λr hr=>?_);subst hr;cases hv:QZ (Je side sec bdg fr rn ck ps now) with
 | false=>exact Ok.t rfl (Ok.d rfl)
 | true=>
  have vf:=G4 hv
  have ho:okB bdg=true:=vf.bd;refine Ok.f rfl (Ok.c (NW bdg) λr hr=>Ok.c AZ λr2 hr2=>?_);subst hr2
  have hr:r.1=QI bdg:=by rw[hr];unfold JL;rw[ho];rfl
  rw[hr];refine Ok.c (Sb sec V4 (show sec.size=32 from vf.sc) Kq) λr hr=>?_;subst hr;generalize xS sec V4=P;generalize (QI bdg).fH=K;cases hk:decide (K=P) with
  | false=>exact Ok.t rfl (Ok.d rfl)
  | true=>exact Ok.f rfl (Ok.g (Ok.d rfl))
end Go.Proofs.YtjdieimefebnfaaGreatDoor
namespace Go.Proofs.YtjdieimefebnfaaGreatDoor
open Go Go.EV Crv
theorem Cv(f:Nat->Nat):∀n,II f (n+1) % 8=f 0 % 8
 | 0=>by show (0+f 0 * 256 ^ 0) % 8=_;grind
 | n+1=>by
  show (II f (n+1)+f (n+1) * 256 ^ (n+1)) % 8=_
  have h:=Cv f n;grind
theorem Qjb(k:ze):(2 ^ 254<=Yl (Dx k)/\Yl (Dx k) < 2 ^ 255)/\Yl (Dx k) % 8=0:=by
 rw[Qzv];have e:II (qY k) 32=II (qY k) 31+qY k 31 * 256 ^ 31:=rfl;have h:=SO (xD k) 31;have h8:=Cv (qY k) 31;have e0:qY k 0=on k 0 / 8 * 8:=rfl;have e1:qY k 31=on k 31 % 64+64:=rfl;grind
theorem xM(k:ze):¬Bj ∣ 2 * Hc (Crv.bits (Yl (Dx k)) 255) 0:=by
 obtain⟨⟨h1,h2⟩,h3⟩:=Qjb k;rw[EP,Nat.zero_mul,zY,Nat.mod_eq_of_lt h2];generalize Yl (Dx k)=n at *
 intro hd;obtain⟨m,rfl⟩:∃m,n=8 * m:=⟨n / 8,by omega⟩;have hc:Nat.Coprime Bj 16:=by decide +kernel
 have hd2:Bj ∣ m:=hc.dvd_of_dvd_mul_left (by rwa [show 2 * (8 * m)=16 * m by omega] at hd)
 have hle:=Nat.le_of_dvd (by omega) hd2;grind [Bj]
theorem mO(n:Nat)(u:Fp):YC 121665 u.val (Crv.bits n 255) 1 0 u.val 1=((mL Xi u (Crv.bits n 255) (1,0,u,1)).1.val,(mL Xi u (Crv.bits n 255) (1,0,u,1)).2.1.val):=by
 have e:=XQ Xi u (Crv.bits n 255) (1,0,u,1)
 have hc:Xi.val=121665:=by decide +kernel
 have h1:(1:Fp).val=1:=by decide +kernel
 grind
theorem lE(u:Fp)(l:List Bool):(res Xi u l).val=(mL Xi u l (1,0,u,1)).1.val * FG ((mL Xi u l (1,0,u,1)).2.1.val) % nP:=by
 unfold res;rw[SM,FF]
theorem Que(n u:Nat){x y:Nat}(hu:u < nP)(h:YC 121665 u (Crv.bits n 255) 1 0 u 1=(x,y)):xN n u=x * FG y % nP:=by
 grind [Nat.mod_eq_of_lt,xN]
theorem qF(n:Nat)(u:Fp):xN n u.val=(res Xi u (Crv.bits n 255)).val:=(Que n u.val u.isLt (mO n u)).trans (lE u _).symm
theorem nL{n:Nat}(h:n < 2 ^ 255):Yl (Oe n)=n:=by
 have hf:∀i,M3 8 n 255 i < 256:=λi=>FA 8 n 255 i
 have e:Yl (Oe n)=II (λj=>M3 8 n 255 j) 32:=ET λi hi=>Sr hf hi;rw[e]
 have key:∀k,II (λj=>M3 8 n 255 j) k=n % 256 ^ k:=λk=>by
  induction k with
  | zero=>exact(Nat.mod_one n).symm
  | succ k ih=>
   show II _ k+M3 8 n 255 k * 256 ^ k=_;rw[ih,Nat.pow_succ,Nat.mod_mul];unfold M3;rw[Nat.mod_eq_of_lt h,Nat.pow_mul];grind
 grind
theorem sW:nP < 2 ^ 255:=by decide +kernel
theorem Qum(n u:Nat):xN n u < 2 ^ 255:=Nat.lt_trans (Nat.mod_lt _ (by decide +kernel)) sW
theorem nO:Yl V4=9:=by decide +kernel
theorem Qwe(a p:ze):Yl (xS a p)=xN (Yl (Dx a)) (Yl p % 2 ^ 255):=by grind [nL,Qum,xS]
def P0(k:ze):ze:=xS k V4
theorem Uk(k:ze):(P0 k).size=32:=ZI _ _
theorem Qzt(k:ze):Yl (P0 k)=(res Xi 9 (Crv.bits (Yl (Dx k)) 255)).val:=by
 unfold P0;rw[Qwe,nO];exact qF _ 9
theorem qG(a b:ze):xN (Yl (Dx a)) (Yl (P0 b) % 2 ^ 255)=(res Xi (res Xi 9 (Crv.bits (Yl (Dx b)) 255)) (Crv.bits (Yl (Dx a)) 255)).val:=by
 rw[Qzt,Nat.mod_eq_of_lt (Nat.lt_trans (Fin.isLt _) sW)];exact qF _ _
theorem rG(a b:ze):xS a (P0 b)=xS b (P0 a):=by
 grind [qG,dh9,xM,xS]
theorem Qeb(a b:ze):xN (Yl (Dx a)) (Yl (P0 b) % 2 ^ 255)≠0:=by
 grind [qG,dh9,xM,Fin.ext]
end Go.Proofs.YtjdieimefebnfaaGreatDoor
