/- Part Y17. -/
import Derived.Test.YtjdieimefebnfaaGreatDoorY16
set_option linter.unusedVariables false
set_option linter.unusedSimpArgs false
set_option maxRecDepth 100000
namespace Go.Proofs.YtjdieimefebnfaaGreatDoor
open Go Go.EV
theorem Me(c:Int):Qj (uH c) (λr=>r=Kn c):=by
 unfold uH;refine Qj.fn ?_;unfold Qmy;refine Ok.n (R:=λr=>r=Kn c) ?_ λr hr=>Ok.d hr;unfold Kn
 repeat' grind [Ok.e,Ok.d]
 all_goals grind
theorem nD(c:Int):(!Kn c&&((c != 46)&&(c != 45)))=!T8 c:=by
 grind [T8,Mv,Kn,bne]
theorem SR(b:Z5):Qj (Qqq b) (λr=>r=G5 b):=by
 unfold Qqq;refine Qj.fn ?_;unfold Qey;refine Ok.n (R:=λc=>(c=true->B3 b.ft=false)/\(c=false->1<=b.ft.size/\b.ft.size<=32/\(Kn (QZ b.ft 0)&&Kn (QZ b.ft ((b.ft.size - 1:Nat):Int)))=true)) ?_ λc hc=>?_
 ·refine Ok.e (λh=>Ok.d ⟨λ_=>?_,λh=>(by cases h)⟩) λh=>Ok.e (λh2=>Ok.d ⟨λ_=>?_,λh=>(by cases h)⟩) λh2=>?_
  ·grind [decide_eq_false,B3]
  ·grind [decide_eq_false,B3]
  ·have h0:1<=b.ft.size:=by grind
   have h1:b.ft.size<=32:=by grind
   have e1:Q0 ((b.ft.size:Int) - 1)=((b.ft.size - 1:Nat):Int):=by grind [Z2]
   refine Ok.k (by simp;omega) (Ok.c (Me _) λr hr=>?_);subst hr;refine Ok.e (λh3=>Ok.d ⟨λ_=>?_,λh=>(by cases h)⟩) λh3=>?_
   ·grind [B3,Kn,QZ]
   ·have h3:Kn (QZ b.ft 0)=true:=by simpa using h3
    rw[e1];grind [Ok.k,Ok.c,Me,Ok.d,B3,Kn,QZ]
 ·refine Ok.e (λh=>Ok.d ?_) λh=>?_
  ·grind [G5]
  ·obtain⟨h0,h1,h2⟩:=hc.2 h;refine Ok.p (R:=Sum.elim (λ_=>(Q3 b.ft).all T8=false) (λ_=>(Q3 b.ft).all T8=true)) ?_ (λe he=>Ok.d ?_) λe he=>?_
   ·refine Ok.s b.ft.size (by omega) (λk y=>y=(k:Int)/\∀i,i < k->T8 (QZ b.ft (i:Int))=true) (by grind) (λk y hy hk=>?_) λy hy=>?_
    ·obtain⟨rfl,hI⟩:=hy;refine Ok.t (by simp;omega) (Ok.n (R:=λc=>c=!T8 (QZ b.ft (k:Int))) ?_ λc hc=>?_)
     ·grind [Ok.k,Ok.c,Me,nD,Ok.e,Ok.d]
     ·subst hc;refine Ok.e (λh=>Ok.d ?_) λh=>Ok.d ?_
      ·grind [Eb,Q3,T8]
      ·refine⟨Z8 hk (by omega),λi hi=>?_⟩;grind
    ·obtain⟨rfl,hI⟩:=hy;grind [Ok.f,Ok.d,Eb,Q3,T8]
   ·grind [G5,B3,Q3,T8]
   ·have hn:B3 b.ft=true:=by
     grind [decide_eq_true,B3,Q3,T8]
    unfold G5;rw[hn];refine Ok.n (R:=λc=>c=_) ?_ λc hc=>Ok.d hc;simp only[Bool.true_and]
    repeat' first
     | refine Ok.e (λh=>?_) (λh=>?_)
     | refine Ok.d ?_
    all_goals grind
theorem aW(n:Nat)(v:Int):Ju (n+1) v=(v / 256 ^ n % 256) :: Ju n v:=by
 induction n generalizing v with
 | zero=>simp[Ju]
 | succ n ih=>
  grind [Int.ediv_ediv_of_nonneg,Int.pow_succ,Int.mul_comm,Ju]
theorem MC(n:Nat)(hn:n<=8)(v:Int)(h0:0<=v)(h:v < 9223372036854775808):Qj (iC (n:Int) v) (λr=>r=Zo n v):=by
 unfold iC;refine Qj.fn ?_;unfold g83;refine Ok.b (R:=λe=>e=Zo n v) ?_ λe he=>Ok.d he;refine Ok.s n (by omega) (λk y=>y=(v / 256 ^ k,Zo k v,(k:Int))) (by rw[Int.pow_zero,Int.ediv_one];rfl) (λk y hy hk=>?_) λy hy=>?_
 ·subst hy;have hp:(0:Int) < 256 ^ k:=Int.pow_pos (by decide);have hv:0<=v / 256 ^ k:=Int.ediv_nonneg h0 (by omega);have hv2:v / 256 ^ k<=v:=Int.ediv_le_self _ h0;have e1:Qm (Int.tmod (v / 256 ^ k) 256)=v / 256 ^ k % 256:=by rw[B8,Int.tmod_eq_emod_of_nonneg hv];omega
  have e2:Q0 (Int.tdiv (v / 256 ^ k) 256)=v / 256 ^ (k+1):=by
   grind [Int.tdiv_eq_ediv_of_nonneg,Int.pow_succ,Int.ediv_ediv_of_nonneg,Z2]
  refine Ok.t (by simp;omega) (Ok.k ?_ (Ok.d ?_))
  ·simp only[E5,T4,List.length_singleton,zI];omega
  ·show (_,_,_)=(_,_,_);rw[e1,e2,Z8 hk (by omega)]
   have:strOfNums [v / 256 ^ k % 256]++Zo k v=Zo (k+1) v:=by
    unfold Zo;rw[aW,<-T0];rfl
   rw[this]
 ·subst hy;exact Ok.f (by simp) (Ok.d rfl)
theorem AG(b:Z5)(hv:G5 b=true):Qj (TG b) (λr=>r=K5 b):=by
 obtain⟨h1,h2,h3,h4,h5,h6,h7⟩:=N6 hv;obtain⟨z1,z2⟩:=S5 h1;have hh:bs [102,100]++Zo 1 1=GN:=by decide
 unfold TG;refine Qj.fn ?_;unfold g45;refine Ok.c (MC 1 (by decide) 1 (by decide) (by decide)) λr0 e0=>Ok.k ?_ (Ok.c (MC 6 (by decide) b.fQ h6 (by omega)) λr1 e1=>Ok.k ?_ (Ok.c (MC 6 (by decide) b.fF h3 (by omega)) λr2 e2=>Ok.k ?_ (Ok.c (MC 6 (by decide) b.fC (by omega) (by omega)) λr3 e3=>Ok.k ?_ (Ok.c (MC 1 (by decide) (b.ft.size:Int) (by omega) (by omega)) λr4 e4=>Ok.k ?_ (Ok.k ?_ (Ok.k ?_ (Ok.d ?_)))))));all_goals subst_vars
 all_goals try simp only[hh,ByteArray.size_append,T4,Rs,zI,show (bs [102,100]).size=2 from rfl,h2]
 iterate 7
  ·omega
 ·rfl
theorem pM{l:List Int}(h:∀c,c∈l->0<=c/\c < 256):Ju l.length (num l)=l:=by
 have key:∀(n:Nat) (l:List Int),l.length=n->(∀c,c∈l->0<=c/\c < 256)->Ju n (num l)=l:=by
  intro n;induction n with
  | zero=>intro l hl _;rw[qh.1 hl];rfl
  | succ n ih=>
   intro l hl hb;have hne:l≠[]:=(by grind);have e:=List.dropLast_concat_getLast hne;rw[<-e,Ez];have hc:=hb (l.getLast hne) (List.getLast_mem hne);rw[Ju,show (num l.dropLast * 256+l.getLast hne) / 256=num l.dropLast by omega,show (num l.dropLast * 256+l.getLast hne) % 256=l.getLast hne by omega,ih l.dropLast (by rw[List.length_dropLast];omega) λc hc=>hb c (List.dropLast_subset _ hc)]
 grind
theorem XP{s:ze}{a n:Nat}(h:a+n<=s.size):Zo n (num (Q3 (s.extract a (a+n))))=s.extract a (a+n):=by
 have hl:(Q3 (s.extract a (a+n))).length=n:=by rw[E4,ByteArray.size_extract];omega
 have:=pM (l:=Q3 (s.extract a (a+n))) λc hc=>WB hc;grind [Jg,Zo]
theorem rC{a b c:ze}:(a++b++c).extract a.size (a.size+b.size)=b:=by
 rw[ByteArray.extract_append,ByteArray.extract_append];have e1:a.extract a.size (a.size+b.size)=zg:=by simp_all
 have e2:b.extract (a.size - a.size) (a.size+b.size - a.size)=b:=by
  simp_all
 grind [ByteArray.extract_eq_empty_iff,ByteArray.size_append,ByteArray.empty_append,ByteArray.append_empty,ByteArray.empty]
theorem dR{s:ze}{a b c:Nat}(h1:a<=b)(h2:b<=c):s.extract a b++s.extract b c=s.extract a c:=by
 grind [ByteArray.ext,ByteArray.data_append,ByteArray.data_extract,Nat.min_eq_left,Nat.max_eq_right]
theorem xU{s:ze}(h:okB s=true):K5 (Zj s)=s:=by
 unfold okB at h;simp only[zF,zI] at h;obtain⟨h1,h2,h3,h4⟩:=h;have hb:=D1 s 21;have hn:(s.extract 22 (22+Hr s)).size=Hr s:=by simp_all
 have e1:Zo 1 ((s.extract 22 (22+Hr s)).size:Int)=s.extract 21 22:=by
  rw[hn];have:=Qzr (s:=s) (a:=21) (by omega);rw[show ((Hr s:Nat):Int)=QZ s 21 by unfold Hr;omega,<-show num (Q3 (s.extract 21 22))=QZ s 21 from this];exact XP (s:=s) (a:=21) (n:=1) (by omega)
 have n1:Zo 6 (num (Q3 (s.extract 3 9)))=s.extract 3 9:=XP (a:=3) (n:=6) (by omega)
 have n2:Zo 6 (num (Q3 (s.extract 9 15)))=s.extract 9 15:=XP (a:=9) (n:=6) (by omega)
 have n3:Zo 6 (num (Q3 (s.extract 15 21)))=s.extract 15 21:=XP (a:=15) (n:=6) (by omega)
 show GN++Zo 6 (num (Q3 (s.extract 3 9)))++Zo 6 (num (Q3 (s.extract 9 15)))++Zo 6 (num (Q3 (s.extract 15 21)))++Zo 1 ((s.extract 22 (22+Hr s)).size:Int)++s.extract 22 (22+Hr s)++s.extract (22+Hr s) (54+Hr s)=s;grind [dR,ByteArray.extract_zero_size]
theorem Mx{b:Z5}(hv:G5 b=true):okB (K5 b)=true/\Zj (K5 b)=b:=by
 obtain⟨h1,h2,h3,h4,h5,h6,h7⟩:=N6 hv;obtain⟨z1,z2⟩:=S5 h1;have hz:=Kh hv;have pick:∀(x y z:ze) (a:Nat),a=x.size->(x++y++z).extract a (a+y.size)=y:=(by grind [rC]);have g3:(K5 b).extract 0 3=GN:=by
  have:K5 b=zg++GN++(Zo 6 b.fQ++Zo 6 b.fF++Zo 6 b.fC++Zo 1 (b.ft.size:Int)++b.ft++b.fI):=by grind [ByteArray.append_assoc,ByteArray.empty_append,K5]
  rw[this];exact pick _ _ _ 0 rfl
 have gn:(K5 b).extract 3 9=Zo 6 b.fQ:=by
  have:K5 b=GN++Zo 6 b.fQ++(Zo 6 b.fF++Zo 6 b.fC++Zo 1 (b.ft.size:Int)++b.ft++b.fI):=by grind [ByteArray.append_assoc,K5]
  rw[this];have:=pick GN (Zo 6 b.fQ) (Zo 6 b.fF++Zo 6 b.fC++Zo 1 (b.ft.size:Int)++b.ft++b.fI) 3 rfl;rwa [T4] at this
 have gf:(K5 b).extract 9 15=Zo 6 b.fF:=by
  grind [ByteArray.append_assoc,ByteArray.size_append,T4,K5,GN,Zo]
 have gu:(K5 b).extract 15 21=Zo 6 b.fC:=by
  grind [ByteArray.append_assoc,ByteArray.size_append,T4,K5,GN,Zo]
 have gl:(K5 b).extract 21 22=Zo 1 (b.ft.size:Int):=by
  grind [ByteArray.append_assoc,ByteArray.size_append,T4,K5,GN,Zo]
 have hN:Hr (K5 b)=b.ft.size:=by
  have h8:=Qzr (s:=K5 b) (a:=21) (by omega);rw[show (K5 b).extract 21 (21+1)=Zo 1 (b.ft.size:Int) from gl] at h8
  have h9:num (Q3 (Zo 1 (b.ft.size:Int)))=(b.ft.size:Int):=by
   unfold Zo;rw[N1 (Py 1 _)];grind [CK]
  rw[h9] at h8;unfold Hr;grind
 have nb:∀v:Int,0<=v->v < 281474976710656->num (Q3 (Zo 6 v))=v:=λv h0 h=>by
  unfold Zo;rw[N1 (Py 6 _)];grind [CK]
 have gm:(K5 b).extract 22 (22+b.ft.size)=b.ft:=by
  have:K5 b=(GN++Zo 6 b.fQ++Zo 6 b.fF++Zo 6 b.fC++Zo 1 (b.ft.size:Int))++b.ft++b.fI:=rfl;grind
 have gk:(K5 b).extract (22+b.ft.size) (54+b.ft.size)=b.fI:=by
  have:K5 b=(GN++Zo 6 b.fQ++Zo 6 b.fF++Zo 6 b.fC++Zo 1 (b.ft.size:Int)++b.ft)++b.fI++zg:=by rw[ByteArray.append_empty];rfl
  rw[this];have:=pick (GN++Zo 6 b.fQ++Zo 6 b.fF++Zo 6 b.fC++Zo 1 (b.ft.size:Int)++b.ft) b.fI zg (22+b.ft.size) (by simp only[ByteArray.size_append,T4];rfl);grind
 have e:Zj (K5 b)=b:=by
  unfold Zj;rw[hN,gm,gk,gn,gf,gu,nb _ h6 (by omega),nb _ h3 (by omega),nb _ (by omega) (by omega)]
 refine⟨?_,e⟩;unfold okB;grind
theorem NC(s:ze):Qj (s69 s) (λr=>r=Ut s):=by
 unfold s69;refine Qj.fn ?_;unfold g69;have szs:okB s=true->55<=s.size/\s.size<=86:=λh=>by
  have e:=Kh (b:=Zj s) (by simp_all [zF,okB]);rw[xU h] at e;obtain⟨z1,z2⟩:=S5 (N6 (b:=Zj s) (by simp_all [zF,okB])).1;omega
 have bad:okB s=false->Ut s=(zB,5):=(by grind [Ut]);refine Ok.n (R:=λc=>c=decide (s.size < 55\/86 < s.size)) (Ok.e (λh=>Ok.d ?_) λh=>Ok.d ?_) λc hc=>?_
 ·grind
 ·grind
 subst hc;refine Ok.e (λh=>Ok.d ?_) λh=>?_
 ·rw[zI] at h;rw[bad ?_];rfl;grind
 ·rw[decide_eq_false_iff_not] at h;have e0:Q0 ((s.size:Int) - 32)=((s.size - 32:Nat):Int):=by grind [Z2]
  rw[e0];simp only[zP];have hz:∀a b:Nat,a<=b->b<=a+7->(s.extract a b).size<=7:=(by grind [ByteArray.size_extract]);refine Ok.k (by simp;omega) (Ok.c (XE _ (hz 3 9 (by omega) (by omega))) λr1 e1=>Ok.k (by simp;omega) (Ok.c (XE _ (hz 9 15 (by omega) (by omega))) λr2 e2=>Ok.k (by simp;omega) (Ok.c (XE _ (hz 15 21 (by omega) (by omega))) λr3 e3=>Ok.k (by simp;omega) (Ok.k (by simp) ?_))));subst e1 e2 e3;generalize hb:Z5.mk (s.extract 22 (s.size - 32)) (s.extract (s.size - 32) s.size) (num (Q3 (s.extract 9 15))) (num (Q3 (s.extract 15 21))) (num (Q3 (s.extract 3 9)))=b;have hm:s.size=54+Hr s->Zj s=b:=(by grind [Zj,Hr]);have key:okB s=(G5 b&&decide (K5 b=s)):=by
   cases ho:okB s with
   | true=>
    have h1:=ho;unfold okB at h1;simp only[zF,zI] at h1;grind [xU]
   | false=>
    symm;cases hv:G5 b with
    | false=>rfl
    | true=>
     rw[Bool.true_and];grind [decide_eq_false,Mx]
  refine Ok.n (R:=λc=>c=!okB s) ?_ λc hc=>?_
  ·grind [Ok.c,SR,Ok.e,Ok.d,AG,G5]
  ·subst hc;refine Ok.e (λh=>Ok.d ?_) λh=>Ok.d ?_
   ·rw[bad (by simpa using h)];rfl
   simp_all [zF,zI,okB,Ut]
theorem kH:((List.range 256).all λn=>decide ((g81 (n:Int)).run=some (Xg (n:Int))))=true:=by kernel_rfl
theorem Vc(c:Int)(h:0<=c/\c < 256):Qj (s81 c) (λr=>r=Xg c):=by
 unfold s81;refine Qj.fn ?_;obtain⟨n,rfl⟩:=Int.eq_ofNat_of_zero_le h.1;have:=zJ.1 kH n (by simp;omega);exact⟨_,by grind,rfl⟩
def Yr(c:Int):Int:=if 48<=c/\c<=57 then c - 48 else if 65<=c/\c<=70 then c - 55 else -1
theorem qH:((List.range 256).all λn=>(Qml (n:Int)).run==some (Yr (n:Int)))=true:=by kernel_rfl
theorem AN(c:Int)(h:0<=c/\c < 256):Qj (lE c) (λr=>r=Yr c):=by
 unfold lE;refine Qj.fn ?_;obtain⟨n,rfl⟩:=Int.eq_ofNat_of_zero_le h.1;have:=zJ.1 qH n (by simp;omega);exact⟨_,by grind,rfl⟩
theorem xE(c:Int):decide (Yr c < 0)=!HQ c:=by
 unfold Yr HQ;grind
theorem eN:((List.range 256).all λa=>(List.range 256).all λb=>!(HQ (a:Int)&&HQ (b:Int)) || (Tz (16 * Yr (a:Int)+Yr (b:Int))==(a:Int)&&(CL (16 * Yr (a:Int)+Yr (b:Int))==(b:Int)&&decide (16 * Yr (a:Int)+Yr (b:Int) < 256/\0<=16 * Yr (a:Int)+Yr (b:Int)))))=true:=by kernel_rfl
theorem Tj{a b:Int}(ha:0<=a/\a < 256)(hb:0<=b/\b < 256)(h1:HQ a=true)(h2:HQ b=true):Tz (16 * Yr a+Yr b)=a/\CL (16 * Yr a+Yr b)=b/\0<=16 * Yr a+Yr b/\16 * Yr a+Yr b < 256:=by
 obtain⟨n,rfl⟩:=Int.eq_ofNat_of_zero_le ha.1;obtain⟨m,rfl⟩:=Int.eq_ofNat_of_zero_le hb.1;have:=zJ.1 (zJ.1 eN n (by simp;omega)) m (by simp;omega);grind
theorem hP(c:Int):(Xg c).size=2:=by unfold Xg;rw[E5];rfl
theorem Fw(l:List Int):(HH l).length=3 * l.length - 1:=by
 induction l with
 | nil=>rfl
 | cons c l ih=>
  cases l with
  | nil=>rfl
  | cons d l=>
   grind [List.length_cons,HH]
theorem Mm(s:ze)(hs:s.size<=100000):Qj (s42 s) (λr=>r=M8 s):=by
 unfold s42;refine Qj.fn ?_;unfold g42;refine Ok.b (R:=λe=>e=M8 s) ?_ λe he=>Ok.d he;refine Ok.s s.size (by omega) (λk y=>y=(V5++strOfNums (HH ((Q3 s).take k)),(k:Int))) rfl (λk y hy hk=>?_) λy hy=>?_
 ·subst hy;have hlen:((Q3 s).take k).length=k:=by rw[qa,E4];omega
  have hz:(V5++strOfNums (HH ((Q3 s).take k))).size<=8+3 * k:=by
   rw[ByteArray.size_append,E5,Fw,hlen];show 8+_<=_;omega
  have hnil:((Q3 s).take k=[])↔k=0:=by grind
  refine Ok.t (by simp;omega) (Ok.b (R:=λe=>e=V5++strOfNums (if (Q3 s).take k=[] then [] else HH ((Q3 s).take k)++[58])/\e.size<=9+3 * k) ?_ λe he=>?_)
  ·refine Ok.e (λh=>Ok.k ?_ (Ok.d ?_)) λh=>Ok.d ?_
   ·rw[zI];show (V5++strOfNums (HH ((Q3 s).take k))).size+1<=_;omega
   ·have h:0 < k:=by simpa using h
    rw[if_neg (λe=>by rw[hnil] at e;omega)];refine⟨by rw[T0,<-ByteArray.append_assoc];rfl,?_⟩;rw[ByteArray.size_append];show (V5++strOfNums (HH ((Q3 s).take k))).size+1<=_;omega
   ·have h:k=0:=by grind
    rw[if_pos (hnil.2 h)];subst h;exact⟨rfl,Nat.le_trans hz (by omega)⟩
  ·obtain⟨rfl,hz2⟩:=he;refine Ok.k (by simp;omega) (Ok.c (Vc _ (D1 _ _)) λr hr=>?_);subst hr;refine Ok.k ?_ (Ok.d ?_)
   ·rw[zI,hP];omega
   ·show (_,_)=(_,_);rw[Z8 hk (by omega),List.take_add_one,P7 hk]
    show (_,_)=(V5++strOfNums (HH ((Q3 s).take k++[QZ s (k:Int)])),_);rw[jC,T0,<-ByteArray.append_assoc];rfl
 ·subst hy;refine Ok.f (by simp) (Ok.d ?_);rw[List.take_of_length_le (by rw[E4];omega)];rfl
def EK(p:ze)(i:Nat):Int:=16 * Yr (QZ p ((8+3 * i:Nat):Int))+Yr (QZ p ((9+3 * i:Nat):Int))
def KH(p:ze)(i:Nat):Bool:=HQ (QZ p ((8+3 * i:Nat):Int))&&HQ (QZ p ((9+3 * i:Nat):Int))
theorem Fk:∀(l:List Int) (i:Nat) (c:Int),l[i]?=some c->(HH l)[3 * i]?=some (Tz c)/\(HH l)[3 * i+1]?=some (CL c)/\(i+1 < l.length->(HH l)[3 * i+2]?=some 58)
 | [],i,c,h=>by simp at h
 | [x],i,c,h=>by
  cases i with
  | zero=>simp at h;subst h;exact⟨rfl,rfl,λh=>by simp at h⟩
  | succ i=>simp at h
 | x :: y :: l,i,c,h=>by
  cases i with
  | zero=>simp at h;subst h;exact⟨rfl,rfl,λ_=>rfl⟩
  | succ i=>
   have ih:=Fk (y :: l) i c (by simpa using h);grind [HH]
theorem TF{p:ze}(hp:p.size=103)(hx:∀i,i < 32->KH p i=true):decide (M8 (strOfNums ((List.range 32).map (EK p)))=p)=YX p:=by
 have hx1:∀i,i < 32->HQ (QZ p ((8+3 * i:Nat):Int))=true/\HQ (QZ p ((9+3 * i:Nat):Int))=true:=λi hi=>by
  simp_all [zF,KH]
 have two:=λi hi=>Tj (D1 p ((8+3 * i:Nat):Int)) (D1 p ((9+3 * i:Nat):Int)) (hx1 i hi).1 (hx1 i hi).2
 have ho:Q3 (strOfNums ((List.range 32).map (EK p)))=(List.range 32).map (EK p):=N1 λc hc=>by
  obtain⟨i,hi,rfl⟩:=zM.1 hc;have:=two i (by simpa using hi);exact⟨this.2.2.1,this.2.2.2⟩
 generalize hV:(List.range 32).map (EK p)=V at ho;have hVl:V.length=32:=by grind
 have hVg:∀i,i < 32->V[i]?=some (EK p i):=(by grind)
 have hrng:∀c,c∈HH V->0<=c/\c < 256:=by
  have gen:∀l:List Int,∀c,c∈HH l->0<=c/\c < 256:=by
   intro l;induction l with
   | nil=>grind [HH]
   | cons x l ih=>
    cases l with
    | nil=>
     intro c hc;simp only[HH,zR,zZ,or_false] at hc;rcases hc with rfl|rfl<;>exact D1 _ _
    | cons y l=>
     intro c hc;simp only[HH,zR] at hc;rcases hc with rfl|rfl|rfl|hc
     ·exact D1 _ _
     ·exact D1 _ _
     ·decide
     grind
  exact gen V
 have hS:Q3 (M8 (strOfNums V))=Q3 V5++HH V:=by simp_all [UN,N1,M8]
 have hSz:(M8 (strOfNums V)).size=103:=by
  rw[<-E4,hS,wW,Fw,hVl];rfl
 have at0:∀i:Nat,i < 8->QZ (M8 (strOfNums V)) (i:Int)=QZ V5 (i:Int):=λi hi=>by
  have h1:=P7 (s:=M8 (strOfNums V)) (k:=i) (by omega);rw[hS,wq (by rw[E4];exact hi),P7 (by exact hi)] at h1;grind
 have at8:∀i:Nat,i < 95->some (QZ (M8 (strOfNums V)) ((8+i:Nat):Int))=(HH V)[i]?:=λi hi=>by
  rw[<-P7 (s:=M8 (strOfNums V)) (k:=8+i) (by omega),hS,wz (by rw[E4];show 8<=_;omega)];rw[E4,show 8+i - V5.size=i from by show 8+i - 8=i;omega]
 have pt:∀i:Nat,i < 95->(QZ (M8 (strOfNums V)) ((8+i:Nat):Int)=QZ p ((8+i:Nat):Int)↔VA i (QZ p ((8+i:Nat):Int))=true):=λi hi=>by
  have h1:=at8 i hi;obtain⟨g0,g1,g2⟩:=Fk V (i / 3) (EK p (i / 3)) (hVg (i / 3) (by omega));obtain⟨t0,t1,_⟩:=two (i / 3) (by omega)
  have hx2:=hx1 (i / 3) (by omega);unfold VA;by_cases c2:i % 3=2
  ·grind
  ·rw[if_neg c2];by_cases c0:i % 3=0
   ·rw[show 3 * (i / 3)=i by omega] at g0 t0 hx2;rw[g0] at h1;rw[wh h1];have:Tz (EK p (i / 3))=QZ p ((8+i:Nat):Int):=by grind [EK]
    grind
   ·have hi3:i=3 * (i / 3)+1:=by omega
    grind [Option.some.inj,CL,EK,QZ]
 rw[Bool.eq_iff_iff,zI];unfold YX;rw[we hp,Bool.true_and,zF,zI,zJ];constructor
 ·intro h;refine⟨?_,(by grind)⟩;refine GU (by rw[ByteArray.size_extract];show min 8 p.size - 0=8;omega) λi hi=>?_;have hi:i < 8:=by rw[ByteArray.size_extract] at hi;omega
  rw[XS (by omega) (by omega),zW,<-at0 i hi,h]
 ·intro ⟨h1,h2⟩;refine GU (by omega) λi hi=>?_;by_cases h8:i < 8
  ·rw[at0 i h8,<-h1,XS (by omega) (by omega),zW]
  ·have:=(pt (i - 8) (by omega)).2 (h2 (i - 8) (by simp;omega));rwa [show 8+(i - 8)=i by omega] at this
theorem SN(p:ze)(hs:p.size<=1000000):Qj (Qqk p) (λr=>r=YX p):=by
 unfold Qqk;refine Qj.fn ?_;unfold Qeo;refine Ok.e (λh=>Ok.d ?_) λh=>?_
 ·grind [decide_eq_false,YX]
 ·have hp:p.size=103:=by grind
  refine Ok.p (R:=Sum.elim (λ_=>YX p=false) (λe=>e=strOfNums ((List.range 32).map (EK p))/\∀i,i < 32->KH p i=true)) ?_ (λe he=>Ok.d he.symm) λe he=>?_
  ·refine Ok.s 32 (by decide) (λk y=>y=(strOfNums ((List.range k).map (EK p)),(k:Int))/\∀i,i < k->KH p i=true) ⟨rfl,(by grind)⟩ (λk y hy hk=>?_) λy hy=>?_
   ·obtain⟨rfl,hI⟩:=hy;have e3:Q0 ((3:Int) * (k:Int))=((3 * k:Nat):Int):=by grind [Z2]
    have e8:Q0 ((8:Int)+((3 * k:Nat):Int))=((8+3 * k:Nat):Int):=by grind [Z2]
    have e9:Q0 ((9:Int)+((3 * k:Nat):Int))=((9+3 * k:Nat):Int):=by grind [Z2]
    refine Ok.t (by simp;omega) ?_;rw[e3,e8,e9];have b1:=D1 p ((8+3 * k:Nat):Int);have b2:=D1 p ((9+3 * k:Nat):Int);refine Ok.k (by simp;omega) (Ok.c (AN _ b1) λr1 h1=>Ok.k (by simp;omega) (Ok.c (AN _ b2) λr2 h2=>?_));subst h1 h2;refine Ok.n (R:=λc=>c=!KH p k) ?_ λc hc=>?_
    ·grind [Bool.not_and,xE,Ok.e,Ok.d,KH]
    ·subst hc;refine Ok.e (λh=>Ok.d ?_) λh=>?_
     ·have h:KH p k=false:=by simpa using h
      show YX p=false;cases hpr:YX p with
      | false=>rfl
      | true=>
       unfold YX at hpr;simp only[zF,zI,zJ] at hpr;have q1:=hpr.2.2 (3 * k) (by simp;omega);have q2:=hpr.2.2 (3 * k+1) (by simp;omega);unfold VA at q1 q2;rw[if_neg (by omega)] at q1 q2;grind [KH]
     ·have h:KH p k=true:=by simpa using h
      have h':=h;unfold KH at h';rw[zF] at h';obtain⟨_,_,v0,v1⟩:=Tj b1 b2 h'.1 h'.2
      have ev:Qm (Q0 ((Q0 ((16:Int) * Yr (QZ p ((8+3 * k:Nat):Int))))+Yr (QZ p ((9+3 * k:Nat):Int))))=EK p k:=by
       grind [Z2,B8,Yr,QZ,EK]
      rw[ev];refine Ok.k ?_ (Ok.d ⟨?_,λi hi=>?_⟩)
      ·rw[E5,E5,zI];simp;omega
      ·rw[Z8 hk (by decide),List.range_succ,wP,T0];rfl
      grind
   ·obtain⟨rfl,hI⟩:=hy;exact Ok.f rfl (Ok.d ⟨rfl,hI⟩)
  ·obtain⟨rfl,hI⟩:=he;grind [Ok.c,Mm,E5,Ok.d,TF]
theorem Qhj{t:R6}(h:t=R6.mk EI J0):cF t:=by subst h;exact⟨by kernel_rfl,rfl⟩
theorem AF(b:Z5)(hv:G5 b=true):Qj (s44 b) (λr=>r=M8 (UD (K5 b))):=by
 have hz:=Kh hv;obtain⟨n1,n2⟩:=S5 (N6 hv).1;unfold s44;refine Qj.fn ?_;unfold g44;refine Ok.c Vg λt ht=>Ok.c (AG b hv) λr hr=>?_;subst hr;refine Ok.c (Qz5 t (Qhj ht) (K5 b) (by omega)) λr hr=>?_;subst hr;exact Ok.c (Mm _ (by rw[Ub];decide)) λr hr=>Ok.d hr
theorem AL(s:ze):Qj (Xi s) (λr=>r=okB s):=by
 grind [oF,Qj.fn,Ok.c,NC,Ok.d,Xi,Qef,Ut,okB]
def Cr(p:W9)(k:Int):Bool:=if k=0 then HW p.fA&&(HW p.fO&&HW p.fh) else if k=1 then ZX p.fA&&(ZX p.fO&&HW p.fh) else ZX p.fA&&(ZX p.fO&&okB p.fh)
theorem Vr(p:W9)(k:Int):Qj (vN p k) (λr=>r=Cr p k):=by
 unfold vN;refine Qj.fn ?_;unfold Qmo Cr;refine Ok.e (λh=>Ok.d ?_) λh=>Ok.e (λh2=>?_) λh2=>?_
 ·rw[if_pos (by simpa using h),Bool.and_true];rfl
 ·rw[if_neg (by simpa using h),if_pos (by simpa using h2)];refine Ok.n (R:=λc=>c=_) ?_ λc hc=>Ok.d hc;rw[<-int32,<-int32];exact J4 λ_=>J4 λ_=>Ok.d rfl
 ·rw[if_neg (by simpa using h),if_neg (by simpa using h2)];refine Ok.n (R:=λc=>c=_) ?_ λc hc=>Ok.d hc;rw[<-int32,<-int32];exact J4 λ_=>J4 (by grind [Ok.c,AL,Ok.d])
theorem Vp(s:Q2)(k:Int):Qj (vG s k) (λr=>r=V4 s k):=by
 unfold vG;refine Qj.fn ?_;unfold Qmi V4;refine Ok.e (λh=>Ok.d ?_) λh=>?_
 ·rw[if_pos (by simpa using h),I8,Bool.eq_iff_iff];simp
 ·rw[if_neg (by simpa using h)];refine Ok.n (R:=λc=>c=_) ?_ λc hc=>Ok.d hc;refine Ok.e (λh2=>?_) λh2=>Ok.d ?_
  ·obtain⟨n,hn⟩:=Rl (l:=s.fM) (by rw[I8] at h2;simp at h2;omega);rw[hn];refine Ok.r rfl rfl (Ok.c (SG n) λr hr=>?_);show Ok _ (λc=>c=(B1 n&&(n.fw==k&&n.fU==Q0 (s.fm - 1))));rw[<-hr];exact J4 λ_=>Ok.r rfl rfl (J4 λ_=>Ok.r rfl rfl (Ok.d rfl))
  grind [I8]
def Tf(s:Q2)(least most told known last:Int)(timer:Bool):Bool:=decide (least<=s.fm)&&(decide (s.fm<=most)&&((s.fB.size:Int)==told&&(timer==decide (0<=s.fq.fE)&&(P1 s known&&V4 s last))))
theorem NI(s:Q2)(k:Int)(hk:k=0\/k=1\/k=2):(Cr s.fj k&&(((s.fH.size:Int)==32)==(k==2)&&!(HW s.fH==(k==2))))=P1 s k:=by
 have e0:HW s.fH=decide (s.fH.size=0):=by unfold HW;simp_all
 unfold Cr P1;rw[int32];rcases hk with rfl|rfl|rfl
 ·simp only[if_true];grind [Bool.and_assoc,decide_eq_false,ZX]
 ·simp only[show ¬(1:Int)=0 by decide,if_true,if_false];grind [Bool.and_assoc,decide_eq_false,ZX]
 ·simp only[show ¬(2:Int)=0 by decide,show ¬(2:Int)=1 by decide,if_false];grind [decide_eq_false,ZX]
theorem FM(s:Q2)(least most told known last:Int)(timer:Bool)(ht:0<=told)(hk:known=0\/known=1\/known=2):Qj (Xa s least most told known (known==2) last timer) (λr=>r=Tf s least most told known last timer):=by
 unfold Xa;refine Qj.fn ?_;unfold Qei Tf;refine Ok.n (R:=λc=>c=_) ?_ λc hc=>Ok.d hc;refine J4 λ_=>J4 λ_=>?_;rw[if_neg (show ¬(0:Int) > told by omega)];refine J4 λ_=>Ok.c (Vr s.fj known) λr hr=>?_;rw[<-NI s known hk,<-hr,show (timer==decide (0<=s.fq.fE)&&(r&&(((s.fH.size:Int)==32)==(known==2)&&!(HW s.fH==(known==2)))&&V4 s last))=(r&&((((s.fH.size:Int)==32)==(known==2))&&(!(HW s.fH==(known==2))&&(V4 s last&&(decide (0<=s.fq.fE)==timer))))) from by
  generalize (((s.fH.size:Int)==32)==(known==2))=A;generalize (!(HW s.fH==(known==2)))=B;generalize V4 s last=C;generalize decide (0<=s.fq.fE)=D;cases A<;>cases B<;>cases C<;>cases D<;>cases r<;>cases timer<;>rfl]
 refine J4 λ_=>J4 λ_=>J4 λ_=>Ok.c (Vp s last) λr2 hr2=>?_;rw[<-hr2];refine J4 λ_=>Ok.c (R:=λr=>r=decide (0<=s.fq.fE)) ⟨_,rfl,rfl⟩ (by grind [Ok.d])
def cW(s:Q2):Bool:=s.fZ==2 || (s.fZ==4 || (s.fZ==6 || (s.fZ==9 || s.fZ==10)))
def oG(s:Q2):Bool:=
 bif s.fo==7 then Tf s 0 8 0 0 0 false&&cW s else
 bif s.fZ != 0 then false else
 bif s.fo==1&&s.fp==1 then Tf s 0 0 0 0 0 false else
 bif s.fo==1&&s.fm==0 then Tf s 0 0 0 0 0 false else
 bif s.fo==1 then Tf s 1 6 0 0 2 false else
 bif s.fo==2&&s.fp==1 then Tf s 1 1 0 0 1 true else
 bif s.fo==3&&s.fp==1 then Tf s 2 7 100 0 1 true else
 bif s.fo==4&&!(s.fp==1) then Tf s 1 7 (168+(s.fh.size:Int)) 1 3 true else
 bif s.fo==5&&s.fp==1 then Tf s 3 8 (204+((s.fh.size:Int)+(s.fj.fh.size:Int))) 2 4 true else
 bif s.fo==6&&s.fp==1 then Tf s 3 8 (240+((s.fh.size:Int)+(s.fj.fh.size:Int))) 2 0 false else
 bif s.fo==6 then Tf s 2 8 (240+((s.fh.size:Int)+(s.fj.fh.size:Int))) 2 5 false else false
theorem CG(s:Q2)(x:H6):F7 s x=(s.fp==x.Jb&&(s.fo==x.Yg&&Tf s x.ZW x.Ug (Uz s x) x.QC x.KW x.UC)):=rfl
theorem jZ(s:Q2)(h:s.fp=1\/s.fp=2):oG s=(Xw s&&Y6.any (F7 s)):=by
 unfold Xw oG Y6;simp only[List.any_cons,List.any_nil,Bool.or_false,CG,Uz];by_cases h7:s.fo=7
 ·rw[h7];grind [Bool.and_comm,cW]
 ·rw[if_neg h7];by_cases hw:s.fZ=0
  rotate_left
  ·grind
  rw[hw];by_cases h1:s.fo=1
  ·grind [decide_eq_false,Tf]
  grind
theorem nE(s:Q2)(h1:s.fp≠1)(h2:s.fp≠2):Y6.any (F7 s)=false:=by
 simp_all [CG,Y6]
theorem O0{P:Program}{G:zi}{a:Nat}{c d e:Bool}{y:T P G Bool}(he:e=!c)(h:c=false->Ok y (λr=>r=!d)):Ok (.br a c (.done true) y) (λr=>r=!(e&&d)):=by
 subst he;exact Db h
theorem XN{P:Program}{G:zi}{a:Nat}{c d:Bool}{y:T P G Bool}(h:c=false->Ok y (λr=>r=d)):Ok (.br a c (.done true) y) (λr=>r=(c || d)):=by
 simp_all [Ok.e,Ok.d]
def dF(s:Q2):Bool:=decide (0<=s.fk)&&(decide (s.fk<=1099511627776)&&(ZX s.fY&&(ZX s.fW&&(ZX s.fA&&(UQ s&&(okB s.fh&&(decide (s.fJ.length<=8)&&(decide (0<=s.fm)&&(decide (s.fm<=8)&&V7 s.fq)))))))))
theorem n32(s:ze):ZX s=!((s.size:Int) != 32):=by rw[<-int32];simp[bne]
theorem lZ(s:Q2)(h:Y6.any (F7 s)=true):0<=s.fm/\s.fm<=8:=by
 obtain⟨x,hx,h1⟩:=List.any_eq_true.1 h;have hb:(Y6.all λx=>decide (0<=x.ZW/\x.Ug<=8))=true:=by decide
 have hb:=zJ.1 hb x hx;unfold F7 at h1;grind
theorem SL(s:Q2)(h:Sm s):Qj (s63 s) (λr=>r=QY s):=by
 unfold s63;refine Qj.fn ?_;unfold g63;have tail:∀a1 a2 a3 a4 a5:Nat,Ok (T.call a1 (Xi s.fh) [] [] (λr=>.br a2 (!r) (.done true) (.br a3 (decide ((8:Int) < (E6 Z6 s.fJ))) (.done true) (.br a4 (decide (s.fm < 0)) (.done true) (.br a5 (decide ((8:Int) < s.fm)) (.done true) (.cl 2079 (Ar s.fq) λr2=>.done (!r2)))))):TT Bool) (λr=>r=!(okB s.fh&&(decide (s.fJ.length<=8)&&(decide (0<=s.fm)&&(decide (s.fm<=8)&&V7 s.fq))))):=λa1 a2 a3 a4 a5=>by
  refine Ok.c (AL _) λr hr=>?_;rw[<-hr];refine O0 (by simp) λ_=>O0 (by rw[I8,Qy3,Bool.not_not,decide_eq_decide];omega) λ_=>O0 (by grind) λ_=>O0 (by grind) (by grind [Ok.c,kG,Ok.d])
 refine Ok.n (R:=λc=>c=!(decide (s.fp=1\/s.fp=2)&&dF s)) ?_ λc hc=>?_
 ·unfold dF UQ;by_cases h1:s.fp=1
  ·rw[we (Or.inl h1),Bool.true_and];rw[if_neg (by omega)];simp only[h1];refine Ok.f rfl (O0 (by grind) λ_=>O0 (by grind) λ_=>O0 (n32 _) λ_=>O0 (n32 _) λ_=>O0 (n32 _) λ_=>Ok.t rfl (O0 (by unfold HW;simp) λ_=>Ok.f rfl (tail _ _ _ _ _)))
  ·by_cases h2:s.fp=2
   ·rw[we (Or.inr h2),Bool.true_and];rw[if_pos h2];simp only[h2];refine Ok.t rfl (Ok.f rfl (O0 (by grind) λ_=>O0 (by grind) λ_=>O0 (n32 _) λ_=>O0 (n32 _) λ_=>O0 (n32 _) λ_=>Ok.f rfl (Ok.t rfl (O0 (n32 _) λ_=>tail _ _ _ _ _))))
   ·rw[show decide (s.fp=1\/s.fp=2)=false from qf (λq=>q.elim h1 h2),Bool.false_and];exact Ok.t (by simpa using h1) (Ok.t (by simpa using h2) (Ok.d rfl))
 subst hc;have eq0:QY s=((decide (s.fp=1\/s.fp=2)&&dF s)&&(s.fJ.all YX&&oG s)):=by
  unfold QY RY dF Kl;by_cases hs:s.fp=1\/s.fp=2
  ·rw[we hs,jZ s hs,Bool.true_and];unfold P9;cases ha:Y6.any (F7 s) with
   | false=>simp
   | true=>
    obtain⟨q1,q2⟩:=lZ s ha;grind
  grind [decide_eq_false,nE]
 rw[eq0];cases hF:(decide (s.fp=1\/s.fp=2)&&dF s) with
 | false=>exact Ok.t rfl (Ok.d rfl)
 | true=>
  refine Ok.f rfl ?_;rw[Bool.true_and];have zb:(s.fh.size:Int)<=100000:=by have:=h.bd;omega
  have zp:(s.fj.fh.size:Int)<=100000:=by have:=h.pb;omega
  have w1:Q0 ((168:Int)+(s.fh.size:Int))=168+(s.fh.size:Int):=Z2 (by omega) (by omega)
  have w2:Q0 ((s.fh.size:Int)+(s.fj.fh.size:Int))=(s.fh.size:Int)+(s.fj.fh.size:Int):=Z2 (by omega) (by omega)
  have w3:Q0 ((204:Int)+((s.fh.size:Int)+(s.fj.fh.size:Int)))=204+((s.fh.size:Int)+(s.fj.fh.size:Int)):=Z2 (by omega) (by omega)
  have w4:Q0 ((240:Int)+((s.fh.size:Int)+(s.fj.fh.size:Int)))=240+((s.fh.size:Int)+(s.fj.fh.size:Int)):=Z2 (by omega) (by omega);refine Ok.p (R:=Sum.elim (λ_=>s.fJ.all YX=false) (λ_=>s.fJ.all YX=true)) ?_ (by grind [Ok.d,YX]) λe he=>?_
  ·have hl:=h.pr;refine Ok.s s.fJ.length (by omega) (λk y=>y=(k:Int)/\((s.fJ.take k).any λx=>!YX x)=false) ⟨rfl,rfl⟩ (λk y hy hk=>?_) λy hy=>?_
   ·obtain⟨rfl,h1⟩:=hy;obtain⟨x,hx,hx'⟩:=L9 (l:=s.fJ) (k:=k) hk;have h2:=Jw hx' h1;refine Ok.t (by grind [I8]) (Ok.r (by simp) hx (Ok.c (SN x (by have:=h.ps x (zV hx');omega)) λr hr=>?_));grind [Ok.e,Ok.d,B6,XO,Z8,YX]
   ·obtain⟨rfl,h1⟩:=hy;grind [List.take_length,Ok.f,I8,Ok.d,XO,YX]
  rw[show s.fJ.all YX=true from he,Bool.true_and];unfold oG;have as0:=λ(a b c e:Int) (t:Bool) (hc:0<=c)=>FM s a b c 0 e t hc (.inl rfl);have as1:=λ(a b c e:Int) (t:Bool) (hc:0<=c)=>FM s a b c 1 e t hc (.inr (.inl rfl));have as2:=λ(a b c e:Int) (t:Bool) (hc:0<=c)=>FM s a b c 2 e t hc (.inr (.inr rfl));have bz:(0:Int)<=(s.fh.size:Int):=by omega
  have pz:(0:Int)<=(s.fj.fh.size:Int):=by omega
  refine Ok.e (λh1=>?_) λh1=>?_
  ·rw[h1,cond_true];refine Ok.n (R:=λc=>c=_) ?_ λc hc=>Ok.d hc;refine Ok.c (as0 0 8 0 0 false (by decide)) λr hr=>?_;rw[<-hr];unfold cW;exact J4 λ_=>XN λ_=>XN λ_=>XN λ_=>XN λ_=>Ok.d rfl
  rw[h1,cond_false];refine Ok.e (λh2=>Ok.d (by rw[h2];rfl)) λh2=>?_;rw[h2,cond_false];refine Ok.n (R:=λc=>c=(s.fo==1&&s.fp==1)) (J4 λ_=>Ok.d rfl) λc hc=>?_;rw[<-hc];refine Ok.e (λh3=>?_) λh3=>?_
  ·rw[h3,cond_true];exact Ok.c (as0 0 0 0 0 false (by decide)) λr hr=>Ok.d hr
  rw[h3,cond_false];refine Ok.n (R:=λc=>c=(s.fo==1&&s.fm==0)) (J4 λ_=>Ok.d rfl) λc hc=>?_;rw[<-hc];refine Ok.e (λh4=>?_) λh4=>?_
  ·rw[h4,cond_true];exact Ok.c (as0 0 0 0 0 false (by decide)) λr hr=>Ok.d hr
  rw[h4,cond_false];refine Ok.e (λh5=>?_) λh5=>?_
  ·rw[h5,cond_true];exact Ok.c (as0 1 6 0 2 false (by decide)) λr hr=>Ok.d hr
  rw[h5,cond_false];refine Ok.n (R:=λc=>c=(s.fo==2&&s.fp==1)) (J4 λ_=>Ok.d rfl) λc hc=>?_;rw[<-hc];refine Ok.e (λh6=>?_) λh6=>?_
  ·rw[h6,cond_true];exact Ok.c (as0 1 1 0 1 true (by decide)) λr hr=>Ok.d hr
  rw[h6,cond_false];refine Ok.n (R:=λc=>c=(s.fo==3&&s.fp==1)) (J4 λ_=>Ok.d rfl) λc hc=>?_;rw[<-hc];refine Ok.e (λh6=>?_) λh6=>?_
  ·rw[h6,cond_true];exact Ok.c (as0 2 7 100 1 true (by decide)) λr hr=>Ok.d hr
  rw[h6,cond_false];refine Ok.n (R:=λc=>c=(s.fo==4&&!(s.fp==1))) (J4 λ_=>Ok.d rfl) λc hc=>?_;rw[<-hc];refine Ok.e (λh6=>?_) λh6=>?_
  ·rw[h6,cond_true,w1];exact Ok.c (as1 1 7 _ 3 true (by omega)) λr hr=>Ok.d hr
  rw[h6,cond_false];refine Ok.n (R:=λc=>c=(s.fo==5&&s.fp==1)) (J4 λ_=>Ok.d rfl) λc hc=>?_;rw[<-hc];refine Ok.e (λh6=>?_) λh6=>?_
  ·rw[h6,cond_true,w2,w3];exact Ok.c (as2 3 8 _ 4 true (by omega)) λr hr=>Ok.d hr
  rw[h6,cond_false];refine Ok.n (R:=λc=>c=(s.fo==6&&s.fp==1)) (J4 λ_=>Ok.d rfl) λc hc=>?_;rw[<-hc];refine Ok.e (λh6=>?_) λh6=>?_
  ·rw[h6,cond_true,w2,w4];exact Ok.c (as2 3 8 _ 0 false (by omega)) λr hr=>Ok.d hr
  rw[h6,cond_false];refine Ok.e (λh6=>?_) λh6=>?_
  ·rw[h6,cond_true,w2,w4];exact Ok.c (as2 2 8 _ 5 false (by omega)) λr hr=>Ok.d hr
  rw[h6,cond_false];exact Ok.d rfl
end Go.Proofs.YtjdieimefebnfaaGreatDoor
namespace Go.Proofs.YtjdieimefebnfaaGreatDoor
open Go Go.EV Crv
def vF(f:Nat->Int):Nat->Int
 | 0=>0
 | n+1=>vF f n+f n * 65536 ^ n
theorem E0(f:Nat->Int)(n:Nat):vF f (n+1)=vF f n+f n * 65536 ^ n:=rfl
theorem Mw(n:Nat):(0:Int) < 65536 ^ n:=Int.pow_pos (by decide)
theorem FQ(n:Nat):(65536:Int) ^ (n+1)=65536 * 65536 ^ n:=by grind
theorem ZG{f g:Nat->Int}:∀{n:Nat},(∀i,i < n->f i=g i)->vF f n=vF g n
 | 0,_=>rfl
 | n+1,h=>by rw[E0,E0,ZG λi hi=>h i (by omega),h n (by omega)]
theorem X5(f:Nat->Int)(j:Nat)(x:Int):U7 f j x j=x:=by unfold U7;simp
theorem D7{f:Nat->Int}{j i:Nat}{x:Int}(h:i≠j):U7 f j x i=f i:=by grind [U7]
theorem KF(f:Nat->Int)(x:Int){j:Nat}:∀{n:Nat},j < n->vF (U7 f j x) n=vF f n+(x - f j) * 65536 ^ j
 | n+1,h=>by
  rw[E0,E0];rcases wU j n with h1|h1
  ·rw[KF f x h1,D7 (by omega)];omega
  ·obtain rfl:j=n:=by omega
   grind [ZG,D7,X5,Int.sub_mul,vF,U7]
theorem LB(f g:Nat->Int):∀n,vF (λi=>f i+g i) n=vF f n+vF g n
 | 0=>rfl
 | n+1=>by rw[E0,E0,E0,LB f g n,Int.add_mul];omega
theorem Cj(c:Int)(f:Nat->Int):∀n,vF (λi=>c * f i) n=c * vF f n
 | 0=>by show (0:Int)=c * 0;omega
 | n+1=>by rw[E0,E0,Cj c f n,Int.mul_add,Int.mul_assoc]
theorem JV(f:Nat->Int)(m:Nat):∀n,vF f (m+n)=vF f m+65536 ^ m * vF (λi=>f (m+i)) n
 | 0=>by grind [vF]
 | n+1=>by
  show vF f (m+n)+f (m+n) * 65536 ^ (m+n)=_;rw[JV f m n,E0,Int.pow_add,Int.mul_add];grind
theorem V6{f:Nat->Int}:∀{n:Nat},(∀i,i < n->0<=f i)->0<=vF f n
 | 0,_=>by show (0:Int)<=0;omega
 | n+1,h=>by
  rw[E0];have h1:=V6 λi (hi:i < n)=>h i (by omega);have h2:=Int.mul_nonneg (h n (by omega)) (Int.le_of_lt (Mw n));omega
theorem OF{f:Nat->Int}:∀{n:Nat},(∀i,i < n->0<=f i/\f i < 65536)->vF f n < 65536 ^ n
 | 0,_=>by show (0:Int) < 1;omega
 | n+1,h=>by
  rw[E0,FQ];have h1:=OF λi (hi:i < n)=>h i (by omega);have h2:=Int.mul_le_mul_of_nonneg_right (show f n<=65535 by have:=h n (by omega);omega) (Int.le_of_lt (Mw n));omega
theorem yC{f:Nat->Int}(n:Nat)(h:∀i,i < n+1->0<=f i):f 0<=vF f (n+1):=by
 have e:=JV f 1 n;rw[Nat.add_comm 1 n] at e
 have h2:=Int.mul_nonneg (Int.le_of_lt (Mw 1)) (V6 (f:=λi=>f (1+i)) (n:=n) λi hi=>h _ (by omega));grind [vF]
def H3(f:Nat->Int):Prop:=∀i,i < 16->0<=f i/\f i < 65536
def nF(f:Nat->Int):Nat:=md (vF f 16)
theorem w16:(65536:Int) ^ 16=115792089237316195423570985008687907853269984665640564039457584007913129639936:=by decide
theorem Qos(f:Nat->Int):nF f < nP:=mV _
theorem UP{f:Nat->Int}(h:H3 f):0<=vF f 16/\vF f 16 < 115792089237316195423570985008687907853269984665640564039457584007913129639936:=⟨V6 λi hi=>(h i hi).1,by rw[<-w16];exact OF h⟩
theorem vat{k m:Nat}(h:k < m):(bif decide (0<=(k:Int))&&decide ((k:Int) < (m:Int)) then some () else none)=some ():=by
 grind
theorem Qxe(f:Nat->Int){k:Nat}(h:k < 16):(Y5 f)[0+(k:Int).toNat]?=some (f k):=by rw[zP,zW,MK,if_pos h]
theorem UG{ρ:Type}{Q:ρ->Prop}{a a2:Nat}{o i:Operand}{d b k:Nat}{f:Nat->Int}{K:Int->TT ρ}(h:k < 16)(hk:Ok (K (f k)) Q):Ok (.Qz a (Mt o i d b f (k:Int)) λ_=>.row a2 Q5 (Y5 f) (0+(k:Int).toNat) true K) Q:=
 Ok.o (r:=()) (vat (m:=16) h) (Ok.r rfl (Qxe f h) hk)
theorem car{c x:Int}(h0:0<=c+x)(h1:c+x < 9223372036854775808):Q0 (c+x)=c+x/\Int.tmod (Q0 (c+x)) 65536=(c+x) % 65536/\Q0 (Int.tdiv (Q0 (c+x)) 65536)=(c+x) / 65536:=by
 have e:=Z2 (n:=c+x) (by omega) (by omega)
 have e1:Int.tmod (c+x) 65536=(c+x) % 65536:=(by grind)
 have e2:Int.tdiv (c+x) 65536=(c+x) / 65536:=(by grind);rw[e,e1,e2];exact⟨rfl,rfl,Z2 (by omega) (by omega)⟩
def F1(f:Nat->Int)(c0 B:Int)(k:Nat)(h:Nat->Int)(c:Int):Prop:=(∀i,i < k->0<=h i/\h i < 65536)/\(∀i,k<=i->h i=f i)/\vF h k+c * 65536 ^ k=vF f k+c0/\0<=c/\c<=B
theorem RN(f:Nat->Int){c0 B:Int}(h:0<=c0/\c0<=B):F1 f c0 B 0 f c0:=⟨λi hi=>by omega,λ_ _=>rfl,by grind,h.1,h.2⟩
theorem Ef{f:Nat->Int}{c0 B:Int}{k:Nat}{h:Nat->Int}{c:Int}(H:F1 f c0 B k h c)(hf:0<=f k/\f k<=B)(hB:1<=B):F1 f c0 B (k+1) (U7 h k ((c+f k) % 65536)) ((c+f k) / 65536):=by
 obtain⟨h1,h2,h3,h4,h5⟩:=H;refine⟨λi hi=>?_,λi hi=>?_,?_,by omega,by omega⟩
 ·grind [X5,D7]
 ·grind [D7]
 ·have ec:vF (U7 h k ((c+f k) % 65536)) k=vF h k:=ZG (by grind [D7]);grind [E0,X5,FQ,Int.add_mul]
def RS:Nat->(Nat->Int)->Prop
 | 0,f=>∀i,i < 16->0<=f i/\f i<=4503599627370496
 | 1,f=>(∀i,i < 16->0<=f i/\f i<=576460752303423488)/\vF f 16<=115792089237316195423570985008687907853269984665640564039458160468665433063424
 | 2,f=>(∀i,i < 16->0<=f i/\f i<=576460752303423488)/\vF f 16 < 115792089237316195423570985008687907853269984665640564039457584007913129639974
 | _,f=>H3 f
theorem Qdx{r:Nat}{f:Nat->Int}(h:RS r f):∀i,i < 16->0<=f i/\f i<=576460752303423488:=λi hi=>by
 match r,h with
 | 0,h=>have:=h i hi;omega
 | 1,h=>exact h.1 i hi
 | 2,h=>exact h.1 i hi
 | n+3,h=>have:0<=f i/\f i < 65536:=h i hi;omega
theorem pO{r:Nat}{f h:Nat->Int}{c:Int}(hf:RS r f)(H:F1 f 0 576460752303423488 16 h c):RS (r+1) (U7 h 0 (h 0+38 * c))/\md (vF (U7 h 0 (h 0+38 * c)) 16)=md (vF f 16)/\h 0+38 * c < 9223372036854775808/\0<=h 0+38 * c:=by
 obtain⟨h1,h2,h3,h4,h5⟩:=H;have hl:H3 h:=h1;have hv:=UP hl;have h0:=h1 0 (by decide);rw[w16] at h3;have e:vF (U7 h 0 (h 0+38 * c)) 16=vF h 16+38 * c:=by
  grind [KF,vF]
 have em:md (vF (U7 h 0 (h 0+38 * c)) 16)=md (vF f 16):=by
  rw[e,<-We _ (2 * c)];grind
 have hb:∀C:Int,65536<=C->h 0+38 * c<=C->∀i,i < 16->0<=U7 h 0 (h 0+38 * c) i/\U7 h 0 (h 0+38 * c) i<=C:=(by grind [X5,D7])
 match r,hf with
 | 0,hf=>
  have c1:c<=4503599627370496 * 2:=by
   have hu:∀n,n<=16->vF f n<=4503599627370496 * (2 * 65536 ^ n):=λn=>by
    induction n with
    | zero=>intro _;show (0:Int)<=_;omega
    | succ n ih=>
     intro hn;have:=Int.mul_le_mul_of_nonneg_right (hf n (by omega)).2 (Int.le_of_lt (Mw n));grind [E0,FQ,Mw]
   grind
  exact⟨⟨hb _ (by decide) (by omega),by rw[e];omega⟩,em,by omega,by omega⟩
 | 1,hf=>
  have c1:c<=1:=by have:=hf.2;omega
  exact⟨⟨hb _ (by decide) (by omega),by grind⟩,em,by omega,by omega⟩
 | 2,hf=>
  have c1:c<=1:=by have:=hf.2;omega
  have hf1:=yC 15 λi hi=>(h1 i hi).1;refine⟨λi hi=>?_,em,by omega,by omega⟩;by_cases ei:i=0
  ·subst ei;rw[X5];have:=hf.2;grind
  grind [D7]
 | n+3,hf=>
  have hfv:=UP hf
  have c1:c=0:=by omega
  refine⟨λi hi=>?_,em,by omega,by omega⟩;grind [X5,D7]
theorem Qdf{p q:Prop}[Decidable p][Decidable q](h:p↔q)(x y:Int):(if p then x else y)=if q then x else y:=by
 grind
def lg(l:List Int)(i:Nat):Int:=l.getD i 0
theorem Kq{l:List Int}{k:Nat}(h:k < l.length):l[k]?=some (lg l k):=by grind [List.getElem?_eq_getElem,lg]
theorem Gy{l:List Int}{k:Nat}(h:l.length<=k):lg l k=0:=by grind [List.getElem?_eq_none,lg]
theorem kC(l:List Int)(hn:16<=l.length/\l.length<=31)(hl:∀i,0<=lg l i/\lg l i<=70368744177664):Qj (TS l) (λr=>H3 r/\nF r=md (vF (lg l) l.length)):=by
 unfold TS;refine Qj.fn ?_;unfold Qmz;refine Ok.o rfl (Ok.o rfl (Ok.b (R:=λe=>∀i,i < 16->e i=lg l i+38 * lg l (16+i)) ?_ λe he=>?_))
 ·refine Ok.s l.length (by omega) (λk y=>(∀i,i < 16->y.1 i=(if i < k then lg l i else 0)+38 * (if 16+i < k then lg l (16+i) else 0))/\y.2=(k:Int)) (by grind) (λk y hy hk=>?_) λy hy=>?_
  ·obtain⟨f,i⟩:=y;obtain⟨h1,rfl⟩:(∀i,i < 16->f i=(if i < k then lg l i else 0)+38 * (if 16+i < k then lg l (16+i) else 0))/\i=(k:Int):=hy;refine Ok.t (by grind [Jn,decide_eq_true]) (Ok.e (λhc=>?_) λhc=>?_)
   ·have hc:(k:Int) < 16:=by simpa using hc
    have hk16:k < 16:=by omega
    refine UG hk16 (Ok.r (by simp) (by rw[zP];exact Kq hk) (UG hk16 (Ok.re (Ok.d ⟨λj hj=>?_,Z8 hk (by omega)⟩))));have hlk:=hl k;have hfk:=h1 k hk16;rw[if_neg (by omega),if_neg (by omega)] at hfk;rw[zP,zW];show U7 f k (Q0 (f k+lg l k)) j=_;rw[hfk,Z2 (by omega) (by omega)];by_cases e:j=k
    ·subst e;rw[X5,if_pos (by omega),if_neg (by omega)];omega
    ·rw[D7 e,h1 j hj];grind
   ·have hc:16<=(k:Int):=by simpa using hc
    have e16:Q0 ((k:Int) - 16)=((k - 16:Nat):Int):=by grind [Z2]
    have hk16:k - 16 < 16:=by omega
    simp only[e16];refine UG hk16 (Ok.r (by simp) (by rw[zP];exact Kq hk) (UG hk16 (Ok.re (Ok.d ⟨λj hj=>?_,Z8 hk (by omega)⟩))));have hlk:=hl k;have hlk2:=hl (k - 16);have hfk:=h1 (k - 16) hk16;rw[if_pos (by omega),if_neg (by omega)] at hfk;rw[zP,zW];show U7 f (k - 16) (Q0 (f (k - 16)+Q0 ((38:Int) * lg l k))) j=_;rw[hfk,Z2 (n:=38 * lg l k) (by omega) (by omega),Z2 (by omega) (by omega)];by_cases e:j=k - 16
    ·subst e;rw[X5,if_pos (by omega),if_pos (by omega),show 16+(k - 16)=k by omega];omega
    ·rw[D7 e,h1 j hj];grind
  ·obtain⟨f,i⟩:=y;obtain⟨h1,rfl⟩:(∀i,i < 16->f i=(if i < l.length then lg l i else 0)+38 * (if 16+i < l.length then lg l (16+i) else 0))/\i=((l.length:Nat):Int):=hy;refine Ok.f (by grind [Jn,decide_eq_false]) (Ok.d λi hi=>?_);show f i=_;rw[h1 i hi,if_pos (by omega)];by_cases e:16+i < l.length
   ·rw[if_pos e]
   simp_all [if_neg,Gy]
 ·have hv:md (vF e 16)=md (vF (lg l) l.length):=by
   have e1:vF e 16=vF (lg l) 16+38 * vF (λi=>lg l (16+i)) 16:=by
    rw[<-Cj,<-LB];exact ZG he
   have e2:vF (lg l) l.length=vF (lg l) 32:=by
    have:=JV (lg l) l.length (32 - l.length);rw[show l.length+(32 - l.length)=32 by omega] at this
    have z:∀n,vF (λi=>lg l (l.length+i)) n=0:=λn=>by
     induction n with
     | zero=>rfl
     | succ n ih=>grind [E0,Gy]
    grind
   have e3:vF (lg l) 32=vF (lg l) 16+65536 ^ 16 * vF (λi=>lg l (16+i)) 16:=JV (lg l) 16 16;rw[e2,e3,w16,e1,<-We _ (2 * vF (λi=>lg l (16+i)) 16)];congr 1;omega
  have h0:RS 0 e:=λi hi=>by
   grind
  refine Ok.b (R:=λr=>H3 r/\md (vF r 16)=md (vF e 16)) ?_ λr hr=>Ok.o rfl (Ok.o rfl (Ok.d ⟨hr.1,hr.2.trans hv⟩));refine Ok.s 3 (by decide) (λr y=>(RS r y.1/\md (vF y.1 16)=md (vF e 16))/\y.2=(r:Int)) ⟨⟨h0,rfl⟩,rfl⟩ (λr y hy hr=>?_) λy hy=>?_
  ·obtain⟨f,i⟩:=y;obtain⟨⟨h1,h2⟩,rfl⟩:(RS r f/\md (vF f 16)=md (vF e 16))/\i=(r:Int):=hy;have hle:=Qdx h1;refine Ok.t (by grind) (Ok.b (R:=λq=>F1 f 0 576460752303423488 16 q.1 q.2) ?_ λq hq=>?_)
   ·refine Ok.s 16 (by decide) (λk y=>F1 f 0 576460752303423488 k y.1 y.2.1/\y.2.2=(k:Int)) ⟨RN f ⟨by decide,by decide⟩,rfl⟩ (λk y hy hk=>?_) λy hy=>?_
    ·obtain⟨h,c,i⟩:=y;obtain⟨H,rfl⟩:F1 f 0 576460752303423488 k h c/\i=(k:Int):=hy;have e1:=H.2.1 k (zN _);have hc:=H.2.2.2;have hfk:=hle k hk;refine Ok.t (we (show (k:Int) < 16 by omega)) (UG hk (UG hk (Ok.re (Ok.d ⟨?_,Z8 hk (by decide)⟩))));obtain⟨c1,c2,c3⟩:=car (c:=c) (x:=h k) (by rw[e1];omega) (by rw[e1];omega);show F1 f 0 576460752303423488 (k+1) (U7 h (0+(k:Int).toNat) (Int.tmod (Q0 (c+h k)) 65536)) (Q0 (Int.tdiv (Q0 (c+h k)) 65536));rw[c2,c3,e1,zP,zW];exact Ef H hfk (by decide)
    ·obtain⟨h,c,i⟩:=y;obtain⟨H,rfl⟩:F1 f 0 576460752303423488 16 h c/\i=((16:Nat):Int):=hy;exact Ok.f rfl (Ok.d H)
   ·obtain⟨k1,k2,k3,k4⟩:=pO h1 hq;obtain⟨h,c⟩:=q;have hc:=hq.2.2.2;refine Ok.o rfl (Ok.r rfl (x:=h 0) rfl (Ok.o rfl (Ok.r rfl (x:=h 0) rfl (Ok.re (Ok.d ⟨?_,Z8 hr (by decide)⟩)))));show RS (r+1) (U7 h 0 (Q0 (h 0+Q0 ((38:Int) * c))))/\md (vF (U7 h 0 (Q0 (h 0+Q0 ((38:Int) * c)))) 16)=md (vF e 16)
    change 0<=c/\c<=576460752303423488 at hc
    change h 0+38 * c < 9223372036854775808 at k3
    change 0<=h 0+38 * c at k4
    have hh:0<=h 0:=(hq.1 0 (by decide)).1;rw[Z2 (n:=38 * c) (by omega) (by omega),Z2 (n:=h 0+38 * c) (by omega) (by omega)];exact⟨k1,k2.trans h2⟩
  ·obtain⟨f,i⟩:=y;obtain⟨⟨h1,h2⟩,rfl⟩:(RS 3 f/\md (vF f 16)=md (vF e 16))/\i=((3:Nat):Int):=hy;exact Ok.f rfl (Ok.d ⟨h1,h2⟩)
theorem yB(f g:Nat->Int):∀n,vF (λi=>f i - g i) n=vF f n - vF g n
 | 0=>rfl
 | n+1=>by rw[E0,E0,E0,yB f g n,Int.sub_mul];omega
theorem LS:∀n,vF (λ_=>0) n=0
 | 0=>rfl
 | n+1=>by rw[E0,LS n,Int.zero_mul];rfl
theorem Io{l:List Int}{j:Nat}{x:Int}(h:j < l.length):lg (l.set j x)=U7 (lg l) j x:=by
 funext i;unfold lg U7;grind
theorem eJ(n i:Nat):lg (List.replicate n 0) i=0:=by
 grind [lg]
theorem NT(e:List Int)(h:e.length=16)(hl:∀i,i < 16->0<=lg e i/\lg e i<=70368744177664):Qj (TS (e.take 16)) (λr=>H3 r/\nF r=md (vF (lg e) 16)):=by
 grind [List.take_of_length_le,kC,Gy]
theorem NR(a b:Nat->Int)(ha:H3 a)(hb:H3 b):Qj (Sn a b) (λr=>H3 r/\nF r=(nF a+nF b) % nP):=by
 unfold Sn;refine Qj.fn ?_;unfold Qe8;refine Ok.o rfl (Ok.o rfl (Ok.o rfl (Ok.o rfl (Ok.b (R:=λe=>e.length=16/\∀i,i < 16->lg e i=a i+b i) ?_ λe he=>?_))))
 ·refine Ok.s 16 (by decide) (λk y=>(y.1.length=16/\∀i,i < k->lg y.1 i=a i+b i)/\y.2=(k:Int)) (by grind) (λk y hy hk=>?_) λy hy=>?_
  ·obtain⟨l,i⟩:=y;obtain⟨⟨h1,h2⟩,rfl⟩:(l.length=16/\∀i,i < k->lg l i=a i+b i)/\i=(k:Int):=hy;have hak:=ha k hk;have hbk:=hb k hk;refine Ok.t (by grind) (UG hk (UG hk (Ok.k (by simp;omega) (Ok.r rfl (x:=lg l k) (by rw[zP,zW];grind [Kq]) (Ok.re (Ok.d ⟨⟨?_,λj hj=>?_⟩,Z8 hk (by decide)⟩))))))
   ·grind
   ·show lg (l.set (0+(k:Int).toNat) (Q0 (a k+b k))) j=_;rw[zP,zW,Io (by omega),Z2 (by omega) (by omega)];grind [X5,D7]
  ·obtain⟨l,i⟩:=y;obtain⟨h1,rfl⟩:(l.length=16/\∀i,i < 16->lg l i=a i+b i)/\i=((16:Nat):Int):=hy;exact Ok.f rfl (Ok.d h1)
 ·refine Ok.v (NT e he.1 λi hi=>?_) λr hr=>Ok.d ⟨hr.1,?_⟩
  ·have:=ha i hi;have:=hb i hi;grind
  ·have ev:vF (lg e) 16=vF a 16+vF b 16:=by rw[<-LB];exact ZG he.2
   rw[hr.2,ev,eQ];rfl
def dP(i:Nat):Int:=if i=0 then 130996 else 131070
theorem Qu4:vF dP 16=57896044618658097711785492504343953926634992332820282019728792003956564819949 * 4:=by decide +kernel
theorem NS(a b:Nat->Int)(ha:H3 a)(hb:H3 b):Qj (Sg a b) (λr=>H3 r/\nF r=iB (nF a) (nF b)):=by
 unfold Sg;refine Qj.fn ?_;unfold Qe7;refine Ok.o rfl (Ok.o rfl (Ok.o rfl (Ok.o rfl (Ok.b (R:=λe=>e.length=16/\∀i,i < 16->lg e i=a i - b i+131070) ?_ λe he=>?_))))
 ·refine Ok.s 16 (by decide) (λk y=>(y.1.length=16/\∀i,i < k->lg y.1 i=a i - b i+131070)/\y.2=(k:Int)) (by grind) (λk y hy hk=>?_) λy hy=>?_
  ·obtain⟨l,i⟩:=y;obtain⟨⟨h1,h2⟩,rfl⟩:(l.length=16/\∀i,i < k->lg l i=a i - b i+131070)/\i=(k:Int):=hy;have hak:=ha k hk;have hbk:=hb k hk;refine Ok.t (by grind) (UG hk (UG hk (Ok.k (by simp;omega) (Ok.r rfl (x:=lg l k) (by rw[zP,zW];grind [Kq]) (Ok.re (Ok.d ⟨⟨?_,λj hj=>?_⟩,Z8 hk (by decide)⟩))))))
   ·grind
   ·show lg (l.set (0+(k:Int).toNat) (Q0 (Q0 (a k - b k)+131070))) j=_;rw[zP,zW,Io (by omega),Z2 (n:=a k - b k) (by omega) (by omega),Z2 (by omega) (by omega)];grind [X5,D7]
  ·obtain⟨l,i⟩:=y;obtain⟨h1,rfl⟩:(l.length=16/\∀i,i < 16->lg l i=a i - b i+131070)/\i=((16:Nat):Int):=hy;exact Ok.f rfl (Ok.d h1)
 ·obtain⟨h1,h2⟩:=he;have hx:e[0]?=some (lg e 0):=Kq (by omega);have h20:=h2 0 (by decide);have ha0:=ha 0 (by decide);have hb0:=hb 0 (by decide);have hs:∀i,i < 16->lg (e.set 0 (Q0 (lg e 0 - 74))) i=a i+(dP i - b i):=λi hi=>by
   rw[Io (by omega),Z2 (by omega) (by omega)];unfold dP;by_cases ei:i=0
   ·subst ei;rw[X5,if_pos rfl];omega
   ·rw[D7 ei,if_neg ei,h2 i hi];omega
  refine Ok.r rfl hx (Ok.r rfl hx (Ok.re (Ok.v (NT _ (by grind) λi hi=>?_) λr hr=>Ok.d ⟨hr.1,?_⟩)))
  ·have:=ha i hi;have:=hb i hi;grind [dP]
  ·have ev:vF (lg (e.set 0 (Q0 (lg e 0 - 74)))) 16=vF a 16 - vF b 16+57896044618658097711785492504343953926634992332820282019728792003956564819949 * 4:=by
    have e1:vF (lg (e.set 0 (Q0 (lg e 0 - 74)))) 16=vF a 16+vF (λi=>dP i - b i) 16:=by rw[<-LB];exact ZG hs
    rw[e1,yB,Qu4];omega
   rw[hr.2,ev,We,mP];rfl
theorem Ua(a b:Nat->Int)(ha:H3 a)(hb:H3 b):Qj (Mu a b) (λr=>H3 r/\nF r=nF a * nF b % nP):=by
 unfold Mu;refine Qj.fn ?_;unfold Qe6;let Inv:Nat->Nat->List Int->Prop:=λi k l=>(l.length=31/\∀j,0<=lg l j/\lg l j<=((16 * i+k:Nat):Int) * 4294967296)/\vF (lg l) 31=vF a i * vF b 16+a i * 65536 ^ i * vF b k;refine Ok.o rfl (Ok.o rfl (Ok.o rfl (Ok.o rfl (Ok.b (R:=λe=>Inv 16 0 e) ?_ λe he=>?_))))
 ·refine Ok.s 16 (by decide) (λi y=>Inv i 0 y.1/\y.2=(i:Int)) ⟨⟨⟨rfl,(by grind [eJ])⟩,?_⟩,rfl⟩ (λi y hy hi=>?_) λy hy=>?_
  ·simp_all [ZG,eJ,LS,Int.zero_mul,Int.mul_zero,vF,lg,List.replicate,trans]
  ·obtain⟨l0,i'⟩:=y;obtain⟨h0,rfl⟩:Inv i 0 l0/\i'=(i:Int):=hy;refine Ok.t (by grind) (Ok.b (R:=λe=>Inv i 16 e) ?_ λe he=>?_)
   ·refine Ok.s 16 (by decide) (λk y=>Inv i k y.1/\y.2=(k:Int)) ⟨h0,rfl⟩ (λk y hy hk=>?_) λy hy=>?_
    ·obtain⟨l,k'⟩:=y;obtain⟨⟨⟨h1,h2⟩,h3⟩,rfl⟩:Inv i k l/\k'=(k:Int):=hy;have eik:Q0 ((i:Int)+(k:Int))=((i+k:Nat):Int):=by grind [Z2]
     have hai:=ha i hi;have hbk:=hb k hk
     have hm:0<=a i * b k/\a i * b k<=65535 * 65535:=⟨Int.mul_nonneg hai.1 hbk.1,Int.mul_le_mul (by omega) (by omega) hbk.1 (by decide)⟩
     have hlk:=h2 (i+k)
     have hx:l[0+(((i+k:Nat):Int)).toNat]?=some (lg l (i+k)):=by rw[zP,zW];exact Kq (by omega)
     refine Ok.t (by grind) ?_;simp only[eik];refine Ok.k (by simp;omega) (Ok.r rfl hx (UG hi (UG hk (Ok.k (by simp;omega) (Ok.r rfl hx (Ok.re (Ok.d ⟨?_,Z8 hk (by decide)⟩)))))));have hb16:((16 * i+k:Nat):Int)<=256:=by omega
     have ew:Q0 (lg l (i+k)+Q0 (a i * b k))=lg l (i+k)+a i * b k:=by grind [Z2]
     show Inv i (k+1) (l.set (0+(((i+k:Nat):Int)).toNat) (Q0 (lg l (i+k)+Q0 (a i * b k))));rw[ew,zP,zW];refine⟨⟨by grind,λj=>?_⟩,?_⟩
     ·rw[Io (by omega)];grind [X5,D7]
     ·rw[Io (by omega),KF _ _ (by omega),h3,show vF b (k+1)=vF b k+b k * 65536 ^ k from rfl,Int.pow_add];grind
    ·obtain⟨l,k'⟩:=y;obtain⟨h1,rfl⟩:Inv i 16 l/\k'=((16:Nat):Int):=hy;exact Ok.f rfl (Ok.d h1)
   ·obtain⟨⟨h1,h2⟩,h3⟩:=he;refine Ok.d ⟨⟨⟨h1,λj=>?_⟩,?_⟩,Z8 hi (by decide)⟩
    ·grind
    ·show vF (lg e) 31=vF a (i+1) * vF b 16+a (i+1) * 65536 ^ (i+1) * 0;rw[h3,show vF a (i+1)=vF a i+a i * 65536 ^ i from rfl,Int.mul_zero,Int.add_zero,Int.add_mul]
  ·obtain⟨l,i'⟩:=y;obtain⟨h0,rfl⟩:Inv 16 0 l/\i'=((16:Nat):Int):=hy;exact Ok.f rfl (Ok.d h0)
 ·obtain⟨⟨h1,h2⟩,h3⟩:=he;refine Ok.v (R:=λr=>H3 r/\nF r=md (vF (lg e) 31)) ?_ λr hr=>Ok.d ⟨hr.1,?_⟩
  ·grind [List.take_of_length_le,kC]
  ·rw[hr.2,h3];show md (vF a 16 * vF b 16+a 16 * 65536 ^ 16 * 0)=_;rw[Int.mul_zero,Int.add_zero,mT];rfl
theorem AA(n:Int)(h:0<=n/\n < 4294967296):Qj (Sr n) (λr=>H3 r/\vF r 16=n):=by
 unfold Sr;refine Qj.fn ?_;unfold Qe9;have e1:Int.tmod n 65536=n % 65536:=(by grind);have e2:Q0 (Int.tdiv n 65536)=n / 65536:=by grind [Int.tdiv_eq_ediv_of_nonneg,Z2]
 refine Ok.o rfl (Ok.o rfl (Ok.o rfl (Ok.o rfl (Ok.r rfl (x:=0) rfl (Ok.re (Ok.o rfl (Ok.o rfl (Ok.d ?_))))))));show H3 (U7 (U7 (λ_=>0) 0 (Int.tmod n 65536)) 1 (Q0 (Int.tdiv n 65536)))/\vF (U7 (U7 (λ_=>0) 0 (Int.tmod n 65536)) 1 (Q0 (Int.tdiv n 65536))) 16=n;rw[e1,e2];refine⟨λi hi=>?_,?_⟩
 ·grind [X5,D7]
 ·rw[KF _ _ (by decide),KF _ _ (by decide),LS];show 0+(n % 65536 - 0) * 1+(n / 65536 - 0) * 65536=n;omega
theorem Qa8:∀i:Fin 255,(nP - 2) / 2 ^ i.val % 2=if i.val=2\/i.val=4 then 0 else 1:=by decide +kernel
theorem Qz8(a:Nat->Int)(ha:H3 a):Qj (Qq6 a) (λr=>H3 r/\nF r=Gk (nF a)):=by
 unfold Qq6;refine Qj.fn ?_;unfold Qe4;refine Ok.o rfl (Ok.o rfl (Ok.c (AA 1 ⟨by decide,by decide⟩) λone h1=>Ok.o rfl (Ok.o rfl (Ok.b (R:=λe=>H3 e/\nF e=Gk (nF a)) ?_ λe he=>Ok.o rfl (Ok.o rfl (Ok.d he))))));refine Ok.s 255 (by decide) (λk y=>(H3 y.1/\∃n,n=(nP - 2) / 2 ^ (255 - k)/\nF y.1=nF a ^ n % nP)/\y.2=254 - (k:Int)) ⟨⟨h1.1,0,by decide +kernel,?_⟩,rfl⟩ (λk y hy hk=>?_) λy hy=>?_
 ·show md (vF one 16)=_;rw[h1.2,Nat.pow_zero];decide +kernel
 ·obtain⟨x,i⟩:=y;obtain⟨⟨hx,n,hn,h2⟩,rfl⟩:(H3 x/\∃n,n=(nP - 2) / 2 ^ (255 - k)/\nF x=nF a ^ n % nP)/\i=254 - (k:Int):=hy;have hd:(nP - 2) / 2 ^ (255 - (k+1))=2 * n+(nP - 2) / 2 ^ (254 - k) % 2:=by
   rw[hn,show 255 - k=(254 - k)+1 by omega,Nat.pow_succ,<-Nat.div_div_eq_div_mul,show 255 - (k+1)=254 - k by omega,Nat.add_comm,Nat.mod_add_div]
  have hb:=Qa8 ⟨254 - k,by omega⟩
  change (nP - 2) / 2 ^ (254 - k) % 2=if 254 - k=2\/254 - k=4 then 0 else 1 at hb
  have ew:Q0 (254 - (k:Int) - 1)=254 - ((k+1:Nat):Int):=by grind [Z2]
  refine Ok.t (by grind) (Ok.o rfl (Ok.o rfl (Ok.c (Ua x x hx hx) λq hq=>Ok.o rfl ?_)));have hq2:nF q=nF a ^ (2 * n) % nP:=by rw[hq.2,h2,gQ]
  refine Ok.n (R:=λc=>c=!decide (254 - k=2\/254 - k=4)) (Ok.e (λhc=>Ok.d ?_) λhc=>Ok.d ?_) λc hc=>?_
  ·grind
  ·grind
  ·refine Ok.e (λh=>?_) λh=>Ok.d ⟨⟨hq.1,2 * n,?_,hq2⟩,ew⟩
   ·rw[hc] at h;have h:¬(254 - k=2\/254 - k=4):=by simpa using h
    rw[if_neg h] at hb;refine Ok.o rfl (Ok.o rfl (Ok.c (Ua q a hq.1 ha) λr hr=>Ok.o rfl (Ok.d ⟨⟨hr.1,2 * n+1,?_,?_⟩,ew⟩)))
    ·rw[hd,hb]
    grind [NA]
   grind
 ·obtain⟨x,i⟩:=y;obtain⟨⟨hx,n,hn,h2⟩,rfl⟩:(H3 x/\∃n,n=(nP - 2) / 2 ^ (255 - 255)/\nF x=nF a ^ n % nP)/\i=254 - ((255:Nat):Int):=hy;refine Ok.f rfl (Ok.d ⟨hx,?_⟩);show nF x=_;unfold Gk;rw[Lj _ _ _ _ (by decide +kernel),Nat.one_mul,h2,hn,Nat.sub_self,Nat.pow_zero,Nat.div_one]
theorem CN(f:Nat->Nat):∀n,((Oq f (2 * n):Nat):Int)=vF (λi=>((f (2 * i):Nat):Int)+256 * ((f (2 * i+1):Nat):Int)) n
 | 0=>rfl
 | n+1=>by
  have e:Oq f (2 * (n+1))=Oq f (2 * n)+f (2 * n) * 256 ^ (2 * n)+f (2 * n+1) * 256 ^ (2 * n+1):=rfl
  have p1:(256:Nat) ^ (2 * n)=65536 ^ n:=by rw[Nat.pow_mul]
  rw[e,E0,<-CN f n,Nat.pow_succ,p1];grind
theorem gA(s:ze)(hs:s.size=32):Qj (Qq8 s) (λr=>H3 r/\vF r 16=((Yf s % 2 ^ 255:Nat):Int)):=by
 unfold Qq8;refine Qj.fn ?_;unfold Qeq;let g:Nat->Int:=λi=>((on s (2 * i):Nat):Int)+256 * ((on s (2 * i+1):Nat):Int);have hg:∀i,0<=g i/\g i < 65536:=(by grind [Ue,on]);refine Ok.o rfl (Ok.o rfl (Ok.b (R:=λe=>∀i,i < 16->e i=g i) ?_ λe he=>?_))
 ·refine Ok.s 16 (by decide) (λk y=>(∀i,i < k->y.1 i=g i)/\y.2=(k:Int)) (by grind) (λk y hy hk=>?_) λy hy=>?_
  ·obtain⟨f,i⟩:=y;obtain⟨h1,rfl⟩:(∀i,i < k->f i=g i)/\i=(k:Int):=hy;have e2:Q0 ((2:Int) * (k:Int))=((2 * k:Nat):Int):=by grind [Z2]
   have e3:Q0 (((2 * k:Nat):Int)+1)=((2 * k+1:Nat):Int):=by grind [Z2]
   refine Ok.t (by grind) ?_;simp only[e2,e3,WJ];refine Ok.k (by grind) (Ok.k (by grind) (UG hk (Ok.re (Ok.d ⟨λj hj=>?_,Z8 hk (by decide)⟩))));show U7 f (0+(k:Int).toNat) (Q0 (Q0 ((on s (2 * k):Nat):Int)+Q0 ((256:Int) * Q0 ((on s (2 * k+1):Nat):Int)))) j=_;have:=Ue s (2 * k);have:=Ue s (2 * k+1);rw[zP,zW,Z2 (n:=((on s (2 * k):Nat):Int)) (by omega) (by omega),Z2 (n:=((on s (2 * k+1):Nat):Int)) (by omega) (by omega),Z2 (n:=256 * ((on s (2 * k+1):Nat):Int)) (by omega) (by omega),Z2 (by omega) (by omega)];by_cases e:j=k
   ·subst e;rw[X5]
   grind [D7]
  ·obtain⟨f,i⟩:=y;obtain⟨h1,rfl⟩:(∀i,i < 16->f i=g i)/\i=((16:Nat):Int):=hy;exact Ok.f rfl (Ok.d h1)
 ·have hl:H3 e:=λi hi=>by grind
  have h15:=hl 15 (by decide)
  have ev:vF e 16=((Yf s:Nat):Int):=(ZG he).trans (CN (on s) 16).symm;refine Ok.o rfl (Ok.r rfl (x:=e 15) rfl (Ok.o rfl (Ok.r rfl (x:=e 15) rfl (Ok.re (Ok.o rfl (Ok.o rfl (Ok.d ?_)))))))
  have em:Int.tmod (e 15) 32768=e 15 % 32768:=(by grind)
  show H3 (U7 e 15 (Int.tmod (e 15) 32768))/\vF (U7 e 15 (Int.tmod (e 15) 32768)) 16=_;rw[em]
  have hl2:H3 (U7 e 15 (e 15 % 32768)):=λi hi=>by
   grind [X5,D7]
  refine⟨hl2,?_⟩;have e15:vF e 16=vF e 15+e 15 * 65536 ^ 15:=rfl;have hlt:vF e 15 < 65536 ^ 15:=OF λi hi=>hl i (by omega);have h0:0<=vF e 15:=V6 (by grind);grind [KF,Int.natCast_emod,Yf]
def pd(i:Nat):Int:=if i=15 then 32767 else if i=0 then 65517 else 65535
theorem kZ:vF pd 16=57896044618658097711785492504343953926634992332820282019728792003956564819949:=by decide +kernel
theorem kJ(i:Nat):0<=pd i/\pd i < 65536:=by grind [pd]
theorem My{f g:Nat->Int}(j:Nat):∀{n:Nat},(∀i,j<=i->i < j+n->f i=g i)->vF f (j+n) - vF g (j+n)=vF f j - vF g j
 | 0,_=>rfl
 | n+1,h=>by
  show vF f (j+n)+f (j+n) * 65536 ^ (j+n) - (vF g (j+n)+g (j+n) * 65536 ^ (j+n))=_
  have ih:=My (f:=f) (g:=g) j (n:=n) (by grind);grind
theorem lex_lt{f g:Nat->Int}{i:Nat}(hf:∀j,j < i->0<=f j/\f j < 65536)(hg:∀j,j < i->0<=g j/\g j < 65536)(h:f i < g i):vF f (i+1) < vF g (i+1):=by
 rw[E0,E0];have h1:=OF hf;have h2:=V6 λj hj=>(hg j hj).1;have h3:=Int.mul_le_mul_of_nonneg_right (show f i+1<=g i by omega) (Int.le_of_lt (Mw i));grind
theorem gO(f:Nat->Int)(hf:H3 f):Qj (vW f) (λr=>r=decide (vF f 16 < 57896044618658097711785492504343953926634992332820282019728792003956564819949)):=by
 unfold vW;refine Qj.fn ?_;unfold Qmq;refine Ok.o rfl (Ok.p (R:=λe=>match e with|.inl b=>b=decide (vF f 16 < 57896044618658097711785492504343953926634992332820282019728792003956564819949)|.inr _=>∀i,1<=i->i < 16->f i=pd i) ?_ (λb hb=>Ok.d hb) λ_ he=>?_)
 ·refine Ok.s 15 (by decide) (λk y=>(∀i,16 - k<=i->i < 16->f i=pd i)/\y=15 - (k:Int)) (by grind) (λk y hy hk=>?_) λy hy=>?_
  ·obtain⟨h1,rfl⟩:=hy;have e15:(15 - (k:Int))=((15 - k:Nat):Int):=by omega
   have hi:15 - k < 16:=by omega
   have ew:Q0 (((15 - k:Nat):Int) - 1)=15 - ((k+1:Nat):Int):=by grind [Z2]
   rw[e15];have hsame:vF f 16 - vF pd 16=vF f (15 - k+1) - vF pd (15 - k+1):=by
    have:=My (f:=f) (g:=pd) (15 - k+1) (n:=k) (by grind);grind
   refine Ok.t (by grind) (Ok.b (R:=λe=>e=pd (15 - k)) (Ok.e (λhc=>Ok.d ?_) λhc=>Ok.d ?_) λe he=>?_)
   ·have hc:((15 - k:Nat):Int)=15:=by simpa using hc
    unfold pd;grind
   ·have hc:¬((15 - k:Nat):Int)=15:=by simpa using hc
    unfold pd;grind
   ·subst he;refine UG hi (Ok.e (λhc=>UG hi (Ok.d ?_)) λhc=>Ok.d ⟨λi h2 h3=>?_,ew⟩)
    ·have hc:f (15 - k)≠pd (15 - k):=by simpa using hc
     show decide (f (15 - k) < pd (15 - k))=decide (vF f 16 < 57896044618658097711785492504343953926634992332820282019728792003956564819949);rw[<-kZ];rcases Int.lt_or_lt_of_ne hc with h|h
     ·have:=lex_lt (λj hj=>hf j (by omega)) (λj _=>kJ j) h;grind
     ·have:=lex_lt (λj _=>kJ j) (λj hj=>hf j (by omega)) h;grind
    grind
  ·obtain⟨h1,rfl⟩:=hy;exact Ok.f rfl (by grind [Ok.d])
 ·refine Ok.o rfl (Ok.r rfl (x:=f 0) rfl (Ok.d ?_));have hs:vF f 16 - vF pd 16=vF f 1 - vF pd 1:=My (f:=f) (g:=pd) 1 (n:=15) (by grind);have e1:vF f 1=f 0:=by show 0+f 0 * 65536 ^ 0=f 0;omega
  have e2:vF pd 1=65517:=by decide
  rw[<-kZ];grind
theorem w15:(65536:Int) ^ 15=1766847064778384329583297500742918515827483896875618958121606201292619776:=by decide
theorem cO{f h:Nat->Int}{c:Int}(hf:H3 f)(hp:57896044618658097711785492504343953926634992332820282019728792003956564819949<=vF f 16)(H:F1 f 19 65536 16 h c) :
  H3 (U7 h 15 (if 0 < c then h 15 - 32768+65536 else h 15 - 32768))/\vF (U7 h 15 (if 0 < c then h 15 - 32768+65536 else h 15 - 32768)) 16=vF f 16 - 57896044618658097711785492504343953926634992332820282019728792003956564819949/\0<=h 15/\h 15 < 65536:=by
 obtain⟨h1,h2,h3,h4,h5⟩:=H;have hl:H3 h:=h1;have hv:=UP hl;have hfv:=UP hf;have h15:=h1 15 (by decide);have e15:vF h 16=vF h 15+h 15 * 65536 ^ 15:=rfl;have hlt:vF h 15 < 65536 ^ 15:=OF λi hi=>hl i (by omega);have h0:0<=vF h 15:=V6 (by grind);rw[w15] at e15 hlt;rw[w16] at h3;refine⟨λi hi=>?_,?_,h15.1,h15.2⟩
 ·grind [X5,D7]
 grind [KF,w15]
theorem mB{x:Int}(h0:0<=x)(h:x < 57896044618658097711785492504343953926634992332820282019728792003956564819949):((md x:Nat):Int)=x:=by rw[Jr];omega
theorem Qu2{f:Nat->Int}(hf:H3 f){N:Nat}(hN:(N:Int)=vF f 16){i:Nat}(hi:i < 16):f i=((N / 65536 ^ i % 65536:Nat):Int):=by
 have e:=JV f i (16 - i);rw[show i+(16 - i)=16 by omega] at e
 have h1:vF f i < 65536 ^ i:=OF λj hj=>hf j (by omega)
 have h0:0<=vF f i:=V6 λj hj=>(hf j (by omega)).1
 have e2:=JV (λj=>f (i+j)) 1 (16 - i - 1);rw[show 1+(16 - i - 1)=16 - i by omega] at e2
 have e3:vF (λj=>f (i+j)) 1=f i:=by show 0+f (i+0) * 65536 ^ 0=f i;grind
 rw[e3] at e2;have hfi:=hf i hi;have d1:(N:Int) / 65536 ^ i=vF (λj=>f (i+j)) (16 - i):=by
  simp_all [Int.add_mul_ediv_left,Int.ne_of_gt,Mw,Int.ediv_eq_zero_of_lt,Int.zero_add]
 grind
theorem pD(g:Nat->Int)(k:Nat):(List.range (2 * k)).map g++[g (2 * k),g (2 * k+1)]=(List.range (2 * (k+1))).map g:=by
 grind [List.range_succ,List.append_assoc]
theorem Qz9(f:Nat->Int)(hf:H3 f):Qj (Qq7 f) (λr=>r=OZ (nF f)):=by
 unfold Qq7;refine Qj.fn ?_;unfold Qe5;refine Ok.o rfl (Ok.b (R:=λe=>H3 e/\vF e 16 < 57896044618658097711785492504343953926634992332820282019728792003956564819949/\nF e=nF f) ?_ λe he=>?_)
 ·refine Ok.lp (λy=>H3 y/\nF y=nF f) (λy=>(vF y 16 / 57896044618658097711785492504343953926634992332820282019728792003956564819949).toNat) ⟨hf,rfl⟩ (by have:=UP hf;unfold Ys;omega) λy hy=>?_;obtain⟨h1,h2⟩:=hy;have hv:=UP h1;refine Ok.o rfl (Ok.c (gO y h1) λr hr=>Ok.e (λhc=>?_) λhc=>Ok.d ?_)
  ·have hp:57896044618658097711785492504343953926634992332820282019728792003956564819949<=vF y 16:=by
    grind
   refine Ok.b (R:=λq=>F1 y 19 65536 16 q.1 q.2) ?_ λq hq=>?_
   ·refine Ok.s 16 (by decide) (λk z=>F1 y 19 65536 k z.1 z.2.1/\z.2.2=(k:Int)) ⟨(by grind [RN]),rfl⟩ (λk z hz hk=>?_) λz hz=>?_
    ·obtain⟨h,c,i⟩:=z;obtain⟨H,rfl⟩:F1 y 19 65536 k h c/\i=(k:Int):=hz;have e1:=H.2.1 k (zN _);have hc:=H.2.2.2;have hfk:=h1 k hk;refine Ok.t (by grind) (UG hk (UG hk (Ok.re (Ok.d ⟨?_,Z8 hk (by decide)⟩))));obtain⟨c1,c2,c3⟩:=car (c:=c) (x:=h k) (by rw[e1];omega) (by rw[e1];omega);show F1 y 19 65536 (k+1) (U7 h (0+(k:Int).toNat) (Int.tmod (Q0 (c+h k)) 65536)) (Q0 (Int.tdiv (Q0 (c+h k)) 65536));rw[c2,c3,e1,zP,zW];grind [Ef]
    ·obtain⟨h,c,i⟩:=z;obtain⟨H,rfl⟩:F1 y 19 65536 16 h c/\i=((16:Nat):Int):=hz;exact Ok.f rfl (Ok.d H)
   ·obtain⟨h,c⟩:=q;obtain⟨t1,t2,t3,t4⟩:=cO h1 hp hq
    dsimp only at t1 t2 t3 t4
    have fin:∀v,v=(if 0 < c then h 15 - 32768+65536 else h 15 - 32768)->Rnd (λy=>H3 y/\nF y=nF f) (λy=>(vF y 16 / 57896044618658097711785492504343953926634992332820282019728792003956564819949).toNat) (vF y 16 / 57896044618658097711785492504343953926634992332820282019728792003956564819949).toNat (λe=>H3 e/\vF e 16 < 57896044618658097711785492504343953926634992332820282019728792003956564819949/\nF e=nF f) (.inl (U7 h 15 v)):=λv hv2=>by
     subst hv2;refine⟨⟨t1,?_⟩,?_⟩
     ·show md (vF _ 16)=_;rw[t2,<-h2,show vF y 16 - 57896044618658097711785492504343953926634992332820282019728792003956564819949=vF y 16 - 57896044618658097711785492504343953926634992332820282019728792003956564819949 * 1 by omega,Im];rfl
     grind
    have ea:Q0 (h 15 - 32768)=h 15 - 32768:=Z2 (by omega) (by omega)
    have upd2:∀a b:Int,U7 (U7 h 15 a) 15 b=U7 h 15 b:=λa b=>funext (by grind [X5,D7]);refine Ok.o rfl (Ok.r rfl (x:=h 15) rfl (Ok.o rfl (Ok.r rfl (x:=h 15) rfl (Ok.re (Ok.e (λhc=>?_) λhc=>Ok.d ?_)))))
    ·have hc:0 < c:=by simpa using hc
     have x15:(Y5 (U7 h 15 (Q0 (h 15 - 32768))))[15]?=some (h 15 - 32768):=by simp_all [MK,if_pos,X5]
     refine Ok.o rfl (Ok.r rfl x15 (Ok.o rfl (Ok.r rfl x15 (Ok.re (Ok.d ?_)))));have:=fin (h 15 - 32768+65536) (by rw[if_pos hc]);rw[upd2,Z2 (n:=h 15 - 32768+65536) (by omega) (by omega)];exact this
    grind
  ·have:decide (vF y 16 < 57896044618658097711785492504343953926634992332820282019728792003956564819949)=true:=by grind
   exact⟨h1,of_decide_eq_true this,h2⟩
 ·obtain⟨h1,h2,h3⟩:=he;have hM:((nF e:Nat):Int)=vF e 16:=mB (UP h1).1 h2;rw[<-h3];have hlt:nF e < 2 ^ 255:=(by grind);generalize nF e=M at *
  refine Ok.g (Ok.b (R:=λl=>l=I1 λj=>((M2 8 M 255 j:Nat):Int)) ?_ λl hl=>Ok.o rfl (Ok.d (by rw[hl];rfl)));refine Ok.s 16 (by decide) (λk y=>y.1=(List.range (2 * k)).map (λj=>((M2 8 M 255 j:Nat):Int))/\y.2=(k:Int)) ⟨rfl,rfl⟩ (λk y hy hk=>?_) λy hy=>?_
  ·obtain⟨l,i⟩:=y;obtain⟨hl,rfl⟩:l=(List.range (2 * k)).map (λj=>((M2 8 M 255 j:Nat):Int))/\i=(k:Int):=hy;have hlen:l.length=2 * k:=by rw[hl];simp
   have hd:=Qu2 h1 hM hk
   have hek:=h1 k hk;refine Ok.t (by grind) (UG hk (UG hk (Ok.app (by grind) (Ok.g (Ok.g (Ok.d ⟨?_,Z8 hk (by decide)⟩))))))
   have t1:Qm (Int.tmod (e k) 256)=e k % 256:=by
    rw[Int.tmod_eq_emod_of_nonneg hek.1];show IntKind.u8.wrap _=_;rw[IntKind.wrap_u8];omega
   have t2:Qm (Q0 (Int.tdiv (e k) 256))=e k / 256:=by
    rw[Int.tdiv_eq_ediv_of_nonneg hek.1,Z2 (by omega) (by omega)];show IntKind.u8.wrap _=_;rw[IntKind.wrap_u8];omega
   show l++[Qm (Int.tmod (e k) 256),Qm (Q0 (Int.tdiv (e k) 256))]=_;rw[t1,t2,hl,<-pD]
   have p8:∀j,(2:Nat) ^ (8 * j)=256 ^ j:=λj=>by rw[Nat.pow_mul]
   have q0:((M2 8 M 255 (2 * k):Nat):Int)=e k % 256:=by
    unfold M2;rw[Nat.mod_eq_of_lt hlt,p8,show (256:Nat) ^ (2 * k)=65536 ^ k by rw[Nat.pow_mul],hd];omega
   have q1:((M2 8 M 255 (2 * k+1):Nat):Int)=e k / 256:=by
    unfold M2;rw[Nat.mod_eq_of_lt hlt,p8,Nat.pow_succ,show (256:Nat) ^ (2 * k)=65536 ^ k by rw[Nat.pow_mul],<-Nat.div_div_eq_div_mul,hd];omega
   rw[q0,q1]
  ·obtain⟨l,i⟩:=y;obtain⟨hl,rfl⟩:l=(List.range (2 * 16)).map (λj=>((M2 8 M 255 j:Nat):Int))/\i=((16:Nat):Int):=hy;exact Ok.f rfl (Ok.d hl)
section
attribute [local irreducible] Ok
theorem C8{ρ:Type}{Q:ρ->Prop}{a:Nat}{o:Operand}{d b:Nat}{f:Nat->Int}{K:Unit->TT ρ}(h:Ok (K ()) Q):Ok (.Qz a (Yo o d b f) K) Q:=Ok.o rfl h
theorem C7{ρ:Type}{Q:ρ->Prop}{a:Nat}{o v:Operand}{b:Nat}{f g:Nat->Int}{K:Unit->TT ρ}(h:Ok (K ()) Q):Ok (.Qz a (HX o v b f g) K) Q:=Ok.o rfl h
theorem C9{ρ:Type}{Q:ρ->Prop}{a d:Nat}{K:Unit->TT ρ}(h:Ok (K ()) Q):Ok (.Qz a (XY d) K) Q:=Ok.o rfl h
theorem kL(s:ze)(hs:s.size=32):Qj (Qq9 s) (λr=>r=Dc s):=by
 have hl:(Q3 s).length=32:=by rw[U1,hs]
 have hx:∀i,i < 32->(Q3 s)[i]?=some ((on s i:Nat):Int):=(by grind [GH,WJ])
 have c0:Qm (Qm (Int.tdiv ((on s 0:Nat):Int) 8) * 8)=((on s 0 / 8 * 8:Nat):Int):=by
  have:=Ue s 0
  have e:Int.tdiv ((on s 0:Nat):Int) 8=((on s 0 / 8:Nat):Int):=td _ 8;rw[e]
  show IntKind.u8.wrap (IntKind.u8.wrap _ * 8)=_;grind [IntKind.wrap_u8]
 have c1:Qm (Int.tmod ((on s 31:Nat):Int) 64+64)=((on s 31 % 64+64:Nat):Int):=by
  have e:Int.tmod ((on s 31:Nat):Int) 64=((on s 31 % 64:Nat):Int):=tm _ 64;rw[e]
  show IntKind.u8.wrap _=_;rw[IntKind.wrap_u8];omega
 have h31:((Q3 s).set 0 (Qm (Qm (Int.tdiv ((on s 0:Nat):Int) 8) * 8)))[31]?=some ((on s 31:Nat):Int):=by
  grind
 unfold Qq9;refine Qj.fn ?_;unfold Qez;refine Ok.o rfl (Ok.k (by rw[hl];rfl) (Ok.r rfl (hx 0 (by decide)) (Ok.k (by rw[hl];rfl) (Ok.r rfl (hx 0 (by decide)) (Ok.re (Ok.g ?_))))));refine Ok.k (by grind) (Ok.r rfl h31 (Ok.k (by grind) (Ok.r rfl h31 (Ok.re (Ok.g (Ok.o rfl (Ok.d ?_)))))));rw[c0,c1];unfold Dc;congr 1;refine List.ext_getElem? λi=>?_;rw[YG,List.getElem?_set,List.getElem?_set,List.length_set,hl];unfold qC;grind
theorem SI(k p:ze)(hk:k.size=32)(hp:p.size=32):Qj (s70 k p) (λr=>r=xS k p):=by
 unfold s70;refine Qj.fn ?_;unfold g70;refine Ok.c (kL k hk) λc hc=>Ok.c (gA p hp) λu hu=>?_;have hN:∀i,i < 255->on c (i / 8) / 2 ^ (i % 8) % 2=Yf (Dc k) / 2 ^ i % 2:=λi hi=>by rw[hc];exact BA (on (Dc k)) (Ue _) (n:=32) (k:=i) (by omega)
 have hcs:c.size=32:=by rw[hc];exact RI k
 have hx:xS k p=OZ (xN (Yf (Dc k)) (Yf p % 2 ^ 255)):=by unfold xS;rfl
 rw[hx];clear hc hx;generalize Yf (Dc k)=N at *
 repeat first|refine C8 ?_|refine C7 ?_|refine C9 ?_
 refine Ok.c (AA 1 ⟨by decide,by decide⟩) λone h1=>Ok.c (AA 0 ⟨by decide,by decide⟩) λzer h0=>?_;repeat first|refine C8 ?_|refine C7 ?_|refine C9 ?_
 refine Ok.c (AA 1 ⟨by decide,by decide⟩) λon2 h1'=>?_;repeat first|refine C8 ?_|refine C7 ?_|refine C9 ?_
 have n1:∀x:Nat->Int,vF x 16=1->nF x=1:=λx h=>by unfold nF;rw[h];decide +kernel
 have n0:∀x:Nat->Int,vF x 16=0->nF x=0:=λx h=>by unfold nF;rw[h];decide +kernel
 have nc:∀x:Nat->Int,vF x 16=121665->nF x=121665:=λx h=>by unfold nF;rw[h];decide +kernel
 have nu:nF u=Yf p % 2 ^ 255 % nP:=by unfold nF;rw[hu.2];exact Rx rfl
 obtain⟨L,hL⟩:∃L,YB 121665 (nF u) (Crv.bits N 255) 1 0 (nF u) 1=L:=⟨_,rfl⟩;refine Ok.b (R:=λe=>(H3 e.1/\H3 e.2)/\L=(nF e.1,nF e.2)) ?_ λe he=>?_
 ·refine Ok.s 255 (by decide) (λk y=>((H3 y.1/\H3 y.2.1/\H3 y.2.2.1/\H3 y.2.2.2.1)/\YB 121665 (nF u) (Crv.bits N (255 - k)) (nF y.1) (nF y.2.1) (nF y.2.2.1) (nF y.2.2.2.1)=L)/\y.q=254 - (k:Int))
   (by grind) (λk y hy hk=>?_) λy hy=>?_
  ·obtain⟨a,b,c2,d,i⟩:=y;obtain⟨⟨⟨la,lb,lc,ld⟩,hlad⟩,rfl⟩:((H3 a/\H3 b/\H3 c2/\H3 d)/\YB 121665 (nF u) (Crv.bits N (255 - k)) (nF a) (nF b) (nF c2) (nF d)=L)/\i=254 - (k:Int):=hy;obtain⟨j,hj⟩:∃j,j=254 - k:=⟨_,rfl⟩;have ej:(254 - (k:Int))=(j:Int):=by omega
   have ew:Q0 ((j:Int) - 1)=254 - ((k+1:Nat):Int):=by grind [Z2]
   rw[show 255 - k=j+1 by omega,LJ] at hlad;have hb:=hN j (by omega);have e1:U0 .u8 (Z3 .u8 (QZ c (Q0 (Int.tdiv (j:Int) 8))) (Z1 (Int.tmod (j:Int) 8))) 1=((N / 2 ^ j % 2:Nat):Int):=by
    rw[td8 j (by omega),tm8,U2 (by omega) (by omega),WJ,GJ ⟨on c (j / 8),Ue _ _⟩ ⟨j % 8,Nat.mod_lt _ (by decide)⟩,<-hb]
   have e2:=td8 j (by omega)
   have hb2:=Pq N j;rw[ej];refine Ok.t (by grind) (Ok.k (by grind) (Ok.k (by grind [tm8,U2,decide,Z1,Int.tmod]) ?_));refine Ok.b (R:=λe=>(H3 e.1/\H3 e.2.1/\H3 e.2.2.1/\H3 e.2.2.2)/\e=if N / 2 ^ j % 2=1 then (c2,d,a,b) else (a,b,c2,d)) (Ok.e (λhc=>?_) λhc=>?_) λe he=>?_
   ·have hc:(U0 .u8 (Z3 .u8 (QZ c (Q0 (Int.tdiv (j:Int) 8))) (Z1 (Int.tmod (j:Int) 8))) 1==1)=true:=hc;rw[e1] at hc;repeat first|refine C8 ?_|refine C7 ?_|refine C9 ?_
    simp_all [Ok.d,if_pos,GY]
   ·have hc:(U0 .u8 (Z3 .u8 (QZ c (Q0 (Int.tdiv (j:Int) 8))) (Z1 (Int.tmod (j:Int) 8))) 1==1)=false:=hc;simp_all [Ok.d,if_neg,IS]
   ·obtain⟨x,z,x2,z2⟩:=e;obtain⟨⟨l1,l2,l3,l4⟩,hE⟩:=he;repeat first|refine C8 ?_|refine C7 ?_|refine C9 ?_
    refine Ok.c (NR x z l1 l2) λp2 hp2=>?_;repeat first|refine C8 ?_|refine C7 ?_|refine C9 ?_
    refine Ok.c (NS x z l1 l2) λm hm=>?_;repeat first|refine C8 ?_|refine C7 ?_|refine C9 ?_
    refine Ok.c (Ua p2 p2 hp2.1 hp2.1) λs hs=>?_;repeat first|refine C8 ?_|refine C7 ?_|refine C9 ?_
    refine Ok.c (Ua m m hm.1 hm.1) λt ht=>?_;repeat first|refine C8 ?_|refine C7 ?_|refine C9 ?_
    refine Ok.c (NS s t hs.1 ht.1) λg hg=>?_;repeat first|refine C8 ?_|refine C7 ?_|refine C9 ?_
    refine Ok.c (NS x2 z2 l3 l4) λf0 hf0=>?_;repeat first|refine C8 ?_|refine C7 ?_|refine C9 ?_
    refine Ok.c (Ua f0 p2 hf0.1 hp2.1) λf hf=>?_;repeat first|refine C8 ?_|refine C7 ?_|refine C9 ?_
    refine Ok.c (NR x2 z2 l3 l4) λg0 hg0=>?_;repeat first|refine C8 ?_|refine C7 ?_|refine C9 ?_
    refine Ok.c (Ua g0 m hg0.1 hm.1) λq hq=>?_;repeat first|refine C8 ?_|refine C7 ?_|refine C9 ?_
    refine Ok.c (Ua s t hs.1 ht.1) λv1 hv1=>?_;repeat first|refine C8 ?_|refine C7 ?_|refine C9 ?_
    refine Ok.c (AA 121665 ⟨by decide,by decide⟩) λcc hcc=>?_;repeat first|refine C8 ?_|refine C7 ?_|refine C9 ?_
    refine Ok.c (Ua cc g hcc.1 hg.1) λd1 hd1=>?_;repeat first|refine C8 ?_|refine C7 ?_|refine C9 ?_
    refine Ok.c (NR s d1 hs.1 hd1.1) λd2 hd2=>?_;repeat first|refine C8 ?_|refine C7 ?_|refine C9 ?_
    refine Ok.c (Ua g d2 hg.1 hd2.1) λv2 hv2=>?_;repeat first|refine C8 ?_|refine C7 ?_|refine C9 ?_
    refine Ok.c (NR f q hf.1 hq.1) λh3 hh3=>?_;repeat first|refine C8 ?_|refine C7 ?_|refine C9 ?_
    refine Ok.c (NR f q hf.1 hq.1) λh4 hh4=>?_;repeat first|refine C8 ?_|refine C7 ?_|refine C9 ?_
    refine Ok.c (Ua h3 h4 hh3.1 hh4.1) λv3 hv3=>?_;repeat first|refine C8 ?_|refine C7 ?_|refine C9 ?_
    refine Ok.c (NS f q hf.1 hq.1) λj1 hj1=>?_;repeat first|refine C8 ?_|refine C7 ?_|refine C9 ?_
    refine Ok.c (NS f q hf.1 hq.1) λj2 hj2=>?_;repeat first|refine C8 ?_|refine C7 ?_|refine C9 ?_
    refine Ok.c (Ua j1 j2 hj1.1 hj2.1) λj3 hj3=>?_;repeat first|refine C8 ?_|refine C7 ?_|refine C9 ?_
    refine Ok.c (Ua u j3 hu.1 hj3.1) λv4 hv4=>?_;repeat first|refine C8 ?_|refine C7 ?_|refine C9 ?_
    have D:∀K:Nat->Nat->Nat×Nat,RM 121665 (nF x) (nF z) K=K (nF v1) (nF v2):=λK=>by
     simp only[RM,force_eq];rw[hv1.2,hv2.2,hd2.2,hd1.2,hg.2,hs.2,ht.2,hp2.2,hm.2,nc cc hcc.2,wQ 121665]
    have F:∀K:Nat->Nat->Nat×Nat,RW (nF u) (nF x) (nF z) (nF x2) (nF z2) K=K (nF v3) (nF v4):=λK=>by
     simp only[RW,force_eq];rw[hv3.2,hv4.2,hj3.2,hj1.2,hj2.2,hh3.2,hh4.2,hf.2,hq.2,hf0.2,hg0.2,hp2.2,hm.2]
    refine Ok.e (λhc=>?_) λhc=>?_
    ·have hc:(U0 .u8 (Z3 .u8 (QZ c (Q0 (Int.tdiv (j:Int) 8))) (Z1 (Int.tmod (j:Int) 8))) 1==1)=true:=hc;rw[e1] at hc
     have h1:=GY hc;rw[if_pos h1] at hE;simp only[zO] at hE;obtain⟨rfl,rfl,rfl,rfl⟩:=hE;repeat first|refine C8 ?_|refine C7 ?_|refine C9 ?_
     refine Ok.d ⟨⟨⟨hv3.1,hv4.1,hv1.1,hv2.1⟩,?_⟩,ew⟩;rw[h1] at hlad;rw[show 255 - (k+1)=j by omega,<-hlad];show _=(bif true then _ else _);rw[cond_true,D,F]
    ·have hc:(U0 .u8 (Z3 .u8 (QZ c (Q0 (Int.tdiv (j:Int) 8))) (Z1 (Int.tmod (j:Int) 8))) 1==1)=false:=hc;rw[e1] at hc
     have h1:=IS hb2 hc;rw[if_neg (by rw[h1];decide)] at hE;simp only[zO] at hE;obtain⟨rfl,rfl,rfl,rfl⟩:=hE;refine Ok.d ⟨⟨⟨hv1.1,hv2.1,hv3.1,hv4.1⟩,?_⟩,ew⟩;rw[h1] at hlad;rw[show 255 - (k+1)=j by omega,<-hlad]
     show _=(bif false then _ else _);rw[cond_false,D,F]
  ·obtain⟨a,b,c2,d,i⟩:=y;obtain⟨⟨⟨la,lb,lc,ld⟩,hlad⟩,rfl⟩:((H3 a/\H3 b/\H3 c2/\H3 d)/\YB 121665 (nF u) (Crv.bits N (255 - 255)) (nF a) (nF b) (nF c2) (nF d)=L)/\i=254 - ((255:Nat):Int):=hy;refine Ok.f rfl (Ok.d ⟨⟨la,lb⟩,?_⟩);rw[Nat.sub_self,LY,Rg] at hlad;exact hlad.symm
 ·obtain⟨a,b⟩:=e;obtain⟨⟨la,lb⟩,hl⟩:=he;repeat first|refine C8 ?_|refine C7 ?_|refine C9 ?_
  refine Ok.c (Qz8 b lb) λq hq=>?_;repeat first|refine C8 ?_|refine C7 ?_|refine C9 ?_
  refine Ok.c (Ua a q la hq.1) λt ht=>Ok.c (Qz9 t ht.1) λo ho=>Ok.d ?_;rw[ho,ht.2,hq.2];rw[nu,hl] at hL;unfold xN;rw[hL]
end
end Go.Proofs.YtjdieimefebnfaaGreatDoor
namespace Go.Proofs.YtjdieimefebnfaaGreatDoor
open Go Go.EV
theorem AO:Qj s71 (λr=>r=V2):=⟨V2,by kernel_rfl,rfl⟩
theorem CA(c:Bool)(e:Int):(A5 c e).o=some (bif c then .inl () else .inr ()):=by
 show (dZ c e).run=_;unfold dZ;simp only[T.run];cases c<;>rfl
theorem Ok.QT{P:Program}{G:zi}{ρ α β:Type}{Q:ρ->Prop}{a:Nat}{s:L5 P G α β}{Li Lo:List (Nat×Nat)}{k:α->T P G ρ}{k2:β->T P G ρ}{v:α}(hs:s.o=some (.inl v))(h:Ok (k v) Q):Ok (.Qi a s Li Lo k k2) Q:=Ok.Qi hs (by grind) (λr e=>by cases e)
theorem Ok.QO{P:Program}{G:zi}{ρ α β:Type}{Q:ρ->Prop}{a:Nat}{s:L5 P G α β}{Li Lo:List (Nat×Nat)}{k:α->T P G ρ}{k2:β->T P G ρ}{v:β}(hs:s.o=some (.inr v))(h:Ok (k2 v) Q):Ok (.Qi a s Li Lo k k2) Q:=Ok.Qi hs (λr e=>by cases e) (by grind)
theorem Ok.Zg{ρ:Type}{Q:ρ->Prop}{a:Nat}{c:Bool}{e:Int}{Li Lo:List (Nat×Nat)}{k k2:Unit->TT ρ}(hc:c=true)(h:Ok (k ()) Q):Ok (.Qi a (A5 c e) Li Lo k k2) Q:=by grind [Ok.QT,CA]
theorem Ok.Yz{ρ:Type}{Q:ρ->Prop}{a:Nat}{c:Bool}{e:Int}{Li Lo:List (Nat×Nat)}{k k2:Unit->TT ρ}(hc:c=false)(h:Ok (k2 ()) Q):Ok (.Qi a (A5 c e) Li Lo k k2) Q:=by grind [Ok.QO,CA]
theorem FD(e:Int):Qj (s57 true e) (λ_=>True):=⟨(),rfl,trivial⟩
theorem WG(s:ze):Qj (Fl s 0) (λr=>r=s):=by
 unfold Fl;refine Qj.fn ?_;unfold Qm0;exact Ok.c (FD 0) λ_ _=>Ok.d rfl
theorem gK(t:Z9):Qj (tV t 0) (λr=>r=t):=by
 unfold tV;refine Qj.fn ?_;unfold Qm2;exact Ok.c (FD 0) λ_ _=>Ok.d rfl
theorem gW(b:Bool):Qj (vP b 0) (λr=>r=b):=by
 unfold vP;refine Qj.fn ?_;unfold Qmn;exact Ok.c (FD 0) λ_ _=>Ok.d rfl
theorem FW:Qj s66 (λr=>r=iS):=⟨_,rfl,rfl⟩
theorem Qyr(k:Int)(b:ze)(hb:b.size<=100000):strOfNums [Qm k,Qm (Z3 .i64 (b.size:Int) 16),Qm (Z3 .i64 (b.size:Int) 8),Qm (b.size:Int)]++b=Jk k b:=by
 unfold Jk;rw[show (16:Int)=((16:Nat):Int) from rfl,show (8:Int)=((8:Nat):Int) from rfl,T6 _ 16 (by decide),T6 _ 8 (by decide),B8,B8,B8,B8];rfl
theorem ZT(n:Qq)(m:Q8)(hb:n.fG.size<=100000)(ht:m.fe.fB.size<=100000):Qj (An n m) (λr=>r=m.fe.fB++Jk n.fw n.fG):=by
 show Ok (Qj3 n m) _;unfold Qj3;rw[Qyr _ _ hb];refine Ok.k ?_ (Ok.k ?_ (Ok.d rfl))
 ·rw[E5,zI];grind
 ·rw[K6,zI];omega
theorem Lw(st k:Int)(b:ze)(m:Q8)(hn:P9 m.fe.fk=true)(hs:0<=m.fe.fm/\m.fe.fm<=100):Qj (Fg st k b m) (λr=>r=((Mz st m.fe.fk).fE,(Mz st m.fe.fk).fV,(Mz st m.fe.fk).fL,m.fe.fm+1,[⟨k,m.fe.fm,b⟩])):=by
 show Ok (Qjh st k b m) _;unfold Qjh
 have e1:Q0 (m.fe.fm+1)=m.fe.fm+1:=Z2 (by omega) (by omega);rw[e1];refine Ok.c FW λr hr=>?_;subst hr;refine Ok.n (R:=λc=>c=!decide (st=1\/st=6)) (Ok.e (λh=>Ok.d ?_) λh=>Ok.d ?_) λc hc=>?_
 ·grind
 ·grind
 subst hc;unfold Mz;refine Ok.e (λh=>?_) λh=>?_
 ·rw[if_neg (by simpa using h)];grind [Ok.c,kB,gK,Ok.g,Ok.d]
 ·rw[if_pos (by simp at h;omega)];exact Ok.g (Ok.g (Ok.d rfl))
theorem SP(m:Q8)(hf:m.fe.fW.size=32):Qj (uW m) (λr=>r=Uw m.fe):=by
 show Ok (Qju m) _;unfold Qju;refine Ok.c (Uo _) λr hr=>?_;rw[if_pos hf] at hr;subst hr;exact Ok.c (WG _) λr hr=>Ok.d hr
theorem CJ(a b c d:ze)(m:Q8)(ha:a.size<=100)(hb:b.size<=100)(hc:c.size<=100)(hd:d.size<=100):Qj (tB a b c d m) (λr=>r=FC a b c d):=by
 show Ok (Qj1 a b c d m) _;unfold Qj1;refine Ok.k (by grind) (Ok.k (by grind) (Ok.c (Ry (a++b) (c++d) nL (by grind) (by grind) (by decide)) λr hr=>?_));subst hr;exact Ok.c (WG _) λr hr=>Ok.d hr
theorem XX(m:Q8)(side s:ze)(hm:m.fe.fH.size<=100)(hd:side.size<=100)(hs:s.size<=4096):Qj (uQ m side s) (λr=>r=L0 m.fe.fH side s):=by
 show Ok (Qyv m side s) _;unfold Qyv;refine Ok.c (Ry _ zg side (by omega) (by decide) (by omega)) λr hr=>?_;subst hr;refine Ok.c (WG _) λk hk=>?_;subst hk;refine Ok.c (Cv s hs) λr hr=>?_;subst hr;refine Ok.c (WG _) λr hr=>?_;subst hr;refine Ok.c (mJ _ _ (by rw[Dn];decide) (by rw[ED];decide)) λr hr=>?_;subst hr;exact Ok.c (WG _) λr hr=>Ok.d hr
theorem Tp(s:ze)(m:Q8)(hs:s.size<=1000000):(tC s m).o=some (if okB s=false then .inr (false,5) else if T9 (Zj s) m.fe.fJ m.fe.fk≠0 then .inr (true,T9 (Zj s) m.fe.fJ m.fe.fk) else .inl ((Zj s).ft,(Zj s).fI,(Zj s).fF,(Zj s).fC,(Zj s).fQ)):=by
 show (Qj2 s m).run=_;unfold Qj2
 have h1:=(Dq s hs).eq;cases ho:okB s with
 | false=>
  have hd:Ut s=(zB,5):=by unfold Ut;rw[ho];rfl
  rw[if_pos rfl];simp only[T.run,h1,hd,CA];rfl
 | true=>
  have hd:Ut s=(Zj s,0):=by grind [Ut]
  have h2:=(Qzn (Zj s) m.fe.fJ m.fe.fk).eq;rw[if_neg (by decide)];simp only[T.run,h1,hd,CA,h2,show ((0:Int)==0)=true from rfl,cond_true];by_cases ha:T9 (Zj s) m.fe.fJ m.fe.fk=0
  ·grind
  ·rw[if_pos ha,show (T9 (Zj s) m.fe.fJ m.fe.fk != 0)=true from by simpa using ha];rfl
theorem XH(k p:ze)(hk:k.size=32)(hp:p.size=32):(uZ k p).o=some (if xS k p=MQ then .inr 2 else .inl (xS k p)):=by
 show (Qj0 k p).run=_;unfold Qj0
 have h1:=(Vt k p hk hp).eq;by_cases h:xS k p=MQ
 ·rw[if_pos h];rw[if_pos ((LG k p).1 h)] at h1;simp only[T.run,h1];rfl
 simp_all [if_neg,LG,T.run]
theorem oC(m:Q8)(h:Vf m.fe):(Qht m).o=some (2,m.fe.fm+1,[⟨1,m.fe.fm,m.fe.fA++Uw m.fe⟩],(Mz 2 m.fe.fk).fE,(Mz 2 m.fe.fk).fV,(Mz 2 m.fe.fk).fL):=by
 refine Qj.eq ?_;show Ok (Qjd m) _;unfold Qjd;refine Ok.v (SP m h.fr) λr hr=>?_;subst hr;refine Ok.k ?_ (Ok.c (Lw 2 1 _ m h.nw (by have:=h.sd;omega)) λr hr=>Ok.d ?_)
 ·rw[F9,h.rn];decide
 grind
theorem Vi{P:Program}{G:zi}{ρ:Type}{g:T P G ρ}{x:ρ}(h:Ok g (λr=>r=x)):g.run=some x:=by obtain⟨r,h1,rfl⟩:=h;exact h1
theorem Qhu{b:ze}(h:b.size=32):((b.size:Int)==32)=true:=by rw[h];rfl
theorem Qwd{b:ze}(h:b.size≠32):((b.size:Int)==32)=false:=by simp;omega
theorem Qqf(b:ze)(m:Q8)(h:Vf m.fe)(hb:b.size<=4000):(vV b m).o=some (if b.size≠32 then .inr 5 else if ¬m.fe.fm < 7 then .inr 3 else .inl (3,m.fe.fm+1,Jk 1 (m.fe.fA++Uw m.fe++b),[⟨1,m.fe.fm,m.fe.fA++Uw m.fe++b⟩],(Mz 3 m.fe.fk).fE,(Mz 3 m.fe.fk).fV,(Mz 3 m.fe.fk).fL)):=by
 show (Qjj b m).run=_;refine Vi ?_;unfold Qjj;by_cases hb:b.size=32
 rotate_left
 ·rw[if_pos hb];exact Ok.Yz (Qwd hb) (Ok.d rfl)
 rw[if_neg (by simpa using hb)];refine Ok.Zg (Qhu hb) ?_;by_cases hs:m.fe.fm < 7
 rotate_left
 ·rw[if_pos hs];exact Ok.Yz (qf hs) (Ok.d rfl)
 rw[if_neg (by simpa using hs)];refine Ok.Zg (we hs) ?_;have sd:=h.sd;have hz:(m.fe.fA++Uw m.fe).size=64:=by rw[ByteArray.size_append,F9,h.rn]
 refine Ok.v (SP m h.fr) λr hr=>?_;subst hr;refine Ok.k (by grind) (Ok.k (by grind) (Ok.c (Lw 3 1 _ ⟨m.fe,m.QJ,m.QG⟩ h.nw (by grind)) λr hr=>?_));subst hr;refine Ok.c (ZT ⟨1,m.fe.fm,m.fe.fA++Uw m.fe++b⟩ _ (by grind) (show (0:Nat)<=100000 by decide)) λr hr=>Ok.d ?_;grind [ByteArray.empty_append,ByteArray.empty]
theorem Qd9(b:ze)(m:Q8)(h:Vf m.fe):(Qhb b m).o=some (if b.size≠32 then .inr (false,5) else if b≠L0 m.fe.fH Xe m.fe.fB then .inr (true,9) else .inl (m.fe.fB++Jk 5 b,-1,0,0)):=by
 show (Qjz b m).run=_;refine Vi ?_;unfold Qjz;by_cases hb:b.size=32
 rotate_left
 ·rw[if_pos hb];exact Ok.Yz (Qwd hb) (Ok.d rfl)
 rw[if_neg (by simpa using hb)];refine Ok.Zg (Qhu hb) (Ok.v (XX m Xe m.fe.fB (by have:=h.ma;omega) (by decide) (by have:=h.td;omega)) λr hr=>?_);subst hr;by_cases hc:b=L0 m.fe.fH Xe m.fe.fB
 ·rw[if_neg (by simpa using hc)];refine Ok.f (by grind) (Ok.c (ZT ⟨5,0,b⟩ ⟨m.fe,m.QJ,m.QG⟩ (by grind) (show m.fe.fB.size<=100000 by have:=h.td;omega)) λr hr=>Ok.c FW λr2 hr2=>Ok.d ?_);subst hr hr2;rfl
 ·rw[if_pos hc];exact Ok.t (by grind) (Ok.o (r:=()) rfl (Ok.Hn (Ok.d rfl)))
theorem Qhz(m:Q8)(h:Vf m.fe):(Qhc m).o=some (bif !(Je m.fe.fq m.fe.fk).1 then .inl (m.fe.fq.fE,m.fe.fq.fV,m.fe.fq.fL,m.QG) else bif (GP m.fe.fq m.fe.fk).2 != 0 then .inr () else .inl ((GP m.fe.fq m.fe.fk).1.fE,(GP m.fe.fq m.fe.fk).1.fV,(GP m.fe.fq m.fe.fk).1.fL,m.fe.fM)):=by
 show (Qjm m).run=_;refine Vi ?_;unfold Qjm
 have e0:(Je m.fe.fq m.fe.fk).2=0:=by unfold Je;rw[h.tm,h.nw];rfl
 refine Ok.c (kT m.fe.fq m.fe.fk) λr hr=>?_;subst hr;rw[e0];refine Ok.c (gW _) λr hr=>?_;subst hr;refine Ok.e (by grind [Ok.d]) λhc=>?_;rw[hc,cond_false];refine Ok.c (mQ m.fe.fq m.fe.fk) λr hr=>?_;subst hr;refine Ok.e (λhd=>?_) (by grind [Ok.d]);rw[hd,cond_true];exact Ok.o (r:=()) rfl (Ok.Hn (Ok.d rfl))
def pP(s:Q2)(b:ze):(Q2×List Qq)⊕(ze×ze×ze×Bool×Int)->Prop
 | .inl r=>X7 s b=.inl r
 | .inr q=>X7 s b=.inr (q.2.2.2.1,q.q)
theorem pA(b:ze)(m:Q8)(h:Vf m.fe)(hb:b.size<=4000):Ok (Qjy b m) (pP m.fe b):=by
 have inl:∀r,X7 m.fe b=.inl r->pP m.fe b (.inl r):=λ_ h=>h
 have inr:∀q,X7 m.fe b=.inr (q.2.2.2.1,q.q)->pP m.fe b (.inr q):=λ_ h=>h;generalize hQ:pP m.fe b=Q at *
 clear hQ;unfold Qjy;unfold X7 at inl inr;by_cases h64:64 < b.size
 rotate_left
 ·rw[if_pos h64] at inr;exact Ok.Yz (by grind) (Ok.d (inr _ rfl))
 rw[if_neg (by grind)] at inl inr;have c2:(decide (0<=(64:Int))&&decide ((64:Int)<=(b.size:Int)))=true:=by simp;omega
 have c3:(decide (0<=(32:Int))&&decide ((32:Int)<=(b.size:Int)))=true:=by simp;omega
 have hx:(b.extract 64 b.size).size=b.size - 64:=by simp_all
 have z1:(b.extract 0 32).size=32:=by rw[ByteArray.size_extract];omega
 have z2:(b.extract 32 64).size=32:=by rw[ByteArray.size_extract];omega
 have e1:=Tp (b.extract 64 b.size) m (by omega);refine Ok.Zg (we (by omega)) (Ok.k c2 ?_);cases ho:okB (b.extract 64 b.size) with
 | false=>
  rw[ho,if_pos rfl] at e1 inr;exact Ok.QO e1 (Ok.d (inr _ rfl))
 | true=>
  rw[ho,if_neg (by decide)] at e1 inr inl;generalize T9 (Zj (b.extract 64 b.size)) m.fe.fJ m.fe.fk=acc at *
  by_cases ha:acc=0
  rotate_left
  ·rw[if_pos ha] at e1 inr;exact Ok.QO e1 (Ok.d (inr _ rfl))
  rw[if_neg (by simpa using ha)] at e1 inr inl;have hb2:=(ZV ho).2;have kz:=(XA ho).1;have f1:=XH m.fe.fW (Zj (b.extract 64 b.size)).fI h.fr kz;have f2:=XH m.fe.fY (b.extract 32 64) h.sc z2;refine Ok.QT e1 (Ok.k c3 (Ok.k (by rw[c2];rfl) (Ok.k c2 ?_)));by_cases s1:xS m.fe.fW (Zj (b.extract 64 b.size)).fI=MQ
  ·rw[if_pos (Or.inl s1)] at inr;rw[if_pos s1] at f1;exact Ok.QO f1 (Ok.d (inr _ rfl))
  rw[if_neg s1] at f1;refine Ok.QT f1 ?_;by_cases s2:xS m.fe.fY (b.extract 32 64)=MQ
  ·rw[if_pos (Or.inr s2)] at inr;rw[if_pos s2] at f2;exact Ok.QO f2 (Ok.d (inr _ rfl))
  rw[if_neg (λq=>q.elim s1 s2)] at inl;rw[if_neg s2] at f2;refine Ok.QT f2 ?_;have td:=h.td;have bz:=h.bz;have sd:=h.sd;have tz:(WH m.fe b).size<=600:=by grind [ByteArray.size_append,K6,WH]
  have mz:(DW m.fe b).size=32:=Dn _ _ _;refine Ok.c (CJ _ _ _ _ _ (by rw[ZA];decide) (by rw[ZA];decide) (by rw[h.rn];decide) (by grind)) λr hr=>?_;rw[show r=DW m.fe b from hr];clear hr;refine Ok.c (ZT ⟨3,0,b⟩ _ (show b.size<=100000 by omega) (show m.fe.fB.size<=100000 by omega)) λr hr=>?_;rw[show r=WH m.fe b from hr];clear hr
  have tz2:(WH m.fe b++m.fe.fh).size<=700:=by rw[ByteArray.size_append];omega
  refine Ok.k (by rw[zI];omega) (Ok.v (XX _ Kp (WH m.fe b++m.fe.fh) (show (DW m.fe b).size<=100 by omega) (by decide) (by omega)) λr hr=>?_);rw[show r=L0 (DW m.fe b) Kp (WH m.fe b++m.fe.fh) from hr];clear hr;refine Ok.k (by rw[zI,X4];omega) (Ok.c (Lw 5 4 (Hd m.fe b) _ h.nw (show 0<=m.fe.fm/\m.fe.fm<=100 by omega)) λr hr=>?_);subst hr;refine Ok.c (ZT ⟨4,m.fe.fm,Hd m.fe b⟩ _ (show (Hd m.fe b).size<=100000 by unfold Hd;rw[ByteArray.size_append,X4];omega) (show (WH m.fe b).size<=100000 by omega)) λr hr=>Ok.d (inl _ ?_);rw[hr];rfl
def pF(s:Q2)(f b:ze):(Q2×List Qq)⊕Int->Prop
 | .inl r=>R3 s f b=.inl r
 | .inr e=>R3 s f b=.inr (false,e)
theorem Qyo(b:ze)(m:Q8)(h:Vf m.fe)(hf:m.QJ.size<=64):Ok (Qjq b m) (pF m.fe m.QJ b):=by
 have inl:∀r,R3 m.fe m.QJ b=.inl r->pF m.fe m.QJ b (.inl r):=λ_ h=>h
 have inr:∀e,R3 m.fe m.QJ b=.inr (false,e)->pF m.fe m.QJ b (.inr e):=λ_ h=>h;generalize hQ:pF m.fe m.QJ b=Q at *
 clear hQ;unfold Qjq;unfold R3 at inl inr;have td:=h.td;have bz:=h.bz;have sd:=h.sd;have ck:=h.ck;by_cases hz:b.size=64\/b.size=96
 rotate_left
 ·have n1:((b.size:Int)==64)=false:=by simp;omega
  have n2:((b.size:Int)==96)=false:=by simp;omega
  rw[if_pos ⟨λe=>hz (.inl e),λe=>hz (.inr e)⟩] at inr;exact Ok.f n1 (Ok.Yz n2 (Ok.d (inr _ rfl)))
 rw[if_neg (λq=>hz.elim q.1 q.2)] at inl inr;have c2:(decide (0<=(64:Int))&&decide ((64:Int)<=(b.size:Int)))=true:=by simp;omega
 have c3:(decide (0<=(32:Int))&&decide ((32:Int)<=(b.size:Int)))=true:=by simp;omega
 have z0:(b.extract 0 64).size=64:=by rw[ByteArray.size_extract];omega
 have zf:(m.QJ++b.extract 0 64).size<=128:=by grind
 have om:=mJ m.fe.fX (m.QJ++b.extract 0 64) (by omega) (by omega);generalize hM:ZJ m.fe.fX (m.QJ++b.extract 0 64)=M at *
 have zr:(m.fe.fA++Uw m.fe).size=64:=by rw[ByteArray.size_append,F9,h.rn]
 have zt:(Dx m.fe b).size<=600:=by grind [ByteArray.size_append,K6,Dx]
 have zb:(HZ m.fe).size<=200:=by grind [ByteArray.size_append,HZ]
 refine Ok.e (λ_=>Ok.Zg rfl ?_) λhn=>Ok.Zg (by grind) ?_;all_goals
  refine Ok.k c2 (Ok.k (by grind) (Ok.c om λr hr=>?_));subst hr;refine Ok.c (WG _) λr hr=>?_;subst hr;refine Ok.k c2 ?_;by_cases hc:b.extract 64 b.size=r
  ·rw[if_neg (by simpa using hc)] at inl;refine Ok.f (by grind) (Ok.k c3 (Ok.k (by rw[c2];rfl) (Ok.c (ZT ⟨1,0,b⟩ _ (show b.size<=100000 by omega) (show m.fe.fB.size<=100000 by omega)) λr2 hr2=>?_)));rw[show r2=Dx m.fe b from hr2];clear hr2;refine Ok.v (SP _ (show m.fe.fW.size=32 from h.fr)) λp hp=>?_;rw[show p=Uw m.fe from hp];clear hp;refine Ok.k (by grind) (Ok.k (by grind) (Ok.c (Lw 4 3 (HZ m.fe) _ h.nw (by grind)) λq hq=>?_));subst hq;refine Ok.c (ZT ⟨3,m.fe.fm,HZ m.fe⟩ _ (show (HZ m.fe).size<=100000 by omega) (show (Dx m.fe b).size<=100000 by omega)) λq hq=>Ok.d (inl _ ?_);rw[hq];rfl
  ·rw[if_pos hc] at inl inr;refine Ok.t (by grind) ?_;by_cases hs:m.fe.fm < 6
   ·rw[if_neg (by simpa using hs)] at inl;refine Ok.Zg (we hs) (Ok.c (Lw 1 2 r ⟨m.fe,m.QJ,m.QG⟩ h.nw (show 0<=m.fe.fm/\m.fe.fm<=100 by omega)) λq hq=>Ok.d (inl _ ?_));subst hq;rfl
   ·rw[if_pos hs] at inr;exact Ok.Yz (qf hs) (Ok.d (inr _ rfl))
def pL(s:Q2)(b:ze):(Int×Int×ze×ze×ze×List Qq×Int×Int×Int)⊕(ze×Bool×Int)->Prop
 | .inl r=>G3 s b=.inl ({ s with fo:=r.1,fm:=r.2.1,fB:=r.2.2.1,fj:=⟨s.fj.fA,s.fj.fO,r.2.2.2.1⟩,fH:=r.q.1,fM:=r.q.2.1,fq:=⟨r.q.2.2.1,r.q.2.2.2.1,r.q.q⟩ },r.q.2.1)
 | .inr q=>G3 s b=.inr (q.2.1,q.2.2)
theorem Qqs(b:ze)(m:Q8)(h:Vf m.fe)(hb:b.size<=4000)(hp:m.fe.fj.fO.size=32):Ok (Qj9 b m) (pL m.fe b):=by
 have inl:∀r,G3 m.fe b=.inl ({ m.fe with fo:=r.1,fm:=r.2.1,fB:=r.2.2.1,fj:=⟨m.fe.fj.fA,m.fe.fj.fO,r.2.2.2.1⟩,fH:=r.q.1,fM:=r.q.2.1,fq:=⟨r.q.2.2.1,r.q.2.2.2.1,r.q.q⟩ },r.q.2.1)->pL m.fe b (.inl r):=λ_ h=>h
 have inr:∀q,G3 m.fe b=.inr (q.2.1,q.2.2)->pL m.fe b (.inr q):=λ_ h=>h;generalize hQ:pL m.fe b=Q at *
 clear hQ;unfold Qj9;unfold G3 at inl inr;by_cases h64:32 < b.size
 rotate_left
 ·rw[if_pos h64] at inr;exact Ok.Yz (by grind) (Ok.d (inr _ rfl))
 rw[if_neg (by grind)] at inl inr;have c3:(decide (0<=(32:Int))&&decide ((32:Int)<=(b.size:Int)))=true:=by simp;omega
 have hx:(b.extract 32 b.size).size=b.size - 32:=by rw[ByteArray.size_extract];omega
 have e1:=Tp (b.extract 32 b.size) m (by omega);refine Ok.Zg (we (by omega)) (Ok.k c3 (Ok.k c3 ?_));cases ho:okB (b.extract 32 b.size) with
 | false=>
  rw[ho,if_pos rfl] at e1 inr;exact Ok.QO e1 (Ok.d (inr _ rfl))
 | true=>
  rw[ho,if_neg (by decide)] at e1 inr inl;generalize T9 (Zj (b.extract 32 b.size)) m.fe.fJ m.fe.fk=acc at *
  by_cases ha:acc=0
  rotate_left
  ·rw[if_pos ha] at e1 inr;exact Ok.QO e1 (Ok.d (inr _ rfl))
  rw[if_neg (by simpa using ha)] at e1 inr inl;have hb2:=(ZV ho).2;have kz:=(XA ho).1;have f1:=XH m.fe.fY m.fe.fj.fO h.sc hp;have f2:=XH m.fe.fW (Zj (b.extract 32 b.size)).fI h.fr kz;refine Ok.QT e1 ?_;by_cases s1:xS m.fe.fY m.fe.fj.fO=MQ
  ·rw[if_pos (Or.inl s1)] at inr;rw[if_pos s1] at f1;exact Ok.QO f1 (Ok.d (inr _ rfl))
  rw[if_neg s1] at f1;refine Ok.QT f1 ?_;by_cases s2:xS m.fe.fW (Zj (b.extract 32 b.size)).fI=MQ
  ·rw[if_pos (Or.inr s2)] at inr;rw[if_pos s2] at f2;exact Ok.QO f2 (Ok.d (inr _ rfl))
  rw[if_neg (λq=>q.elim s1 s2)] at inl inr;rw[if_neg s2] at f2;refine Ok.QT f2 ?_;have td:=h.td;have bz:=h.bz;have sd:=h.sd;have pr:=h.pp.2;have mz:(Kg m.fe b).size=32:=Dn _ _ _;refine Ok.c (CJ _ _ _ _ _ (by rw[ZA];decide) (by rw[ZA];decide) (by omega) (by rw[h.rn];decide)) λr hr=>?_;rw[show r=Kg m.fe b from hr];clear hr;have tz0:(m.fe.fB++b.extract 32 b.size).size<=1000:=by grind
  refine Ok.k (by grind) (Ok.v (XX _ Kp (m.fe.fB++b.extract 32 b.size) (by grind) (by decide) (by omega)) λr hr=>?_);have hr:r=L0 (Kg m.fe b) Kp (m.fe.fB++b.extract 32 b.size):=hr;rw[<-hr] at inl inr;clear hr;by_cases hc:b.extract 0 32=r
  rotate_left
  ·rw[if_pos hc] at inr;exact Ok.t (by grind) (Ok.o (r:=()) rfl (Ok.Hn (Ok.d (inr _ rfl))))
  rw[if_neg (by simpa using hc)] at inl;refine Ok.f (by grind) (Ok.c (ZT ⟨4,0,b⟩ _ (show b.size<=100000 by omega) (show m.fe.fB.size<=100000 by omega)) λt ht=>?_);rw[show t=Mk m.fe b from ht];clear ht;have tz:(Mk m.fe b).size<=1000:=by unfold Mk;rw[ByteArray.size_append,K6];omega
  have zc:(Hb m.fe b).size=32:=X4 _ _ _;refine Ok.v (XX _ Xe (Mk m.fe b) (show (Kg m.fe b).size<=100 by omega) (by decide) (by omega)) λc hc=>?_;rw[show c=Hb m.fe b from hc];clear hc;refine Ok.c (Lw 6 5 (Hb m.fe b) _ h.nw (show 0<=m.fe.fm/\m.fe.fm<=100 by omega)) λq hq=>?_;subst hq;refine Ok.c (ZT ⟨5,m.fe.fm,Hb m.fe b⟩ _ (show (Hb m.fe b).size<=100000 by omega) (show (Mk m.fe b).size<=100000 by omega)) λq hq=>Ok.d (inl _ ?_);rw[hq];rfl
def pG(s:Q2)(f:ze)(n:Qq):(Q2×List Qq)⊕(ze×ze×ze×ze×Bool×Int)->Prop
 | .inl r=>U6 s f n=.inl r
 | .inr q=>U6 s f n=.inr (q.q.1,q.q.2)
theorem EX{p:Q8}{n:Qq}{f:FuncId}{a b c:Int}{x0 h0 hk hf}(h:OU p.fe.fp p.fe.fo n.fw [QK a,QK b,QK c]=true):(DA p n f a b c x0 h0 hk hf).o=some ():=by
 grind [DA]
theorem rL(n:Qq)(m:Q8)(h:Vf m.fe)(hf:m.QJ.size<=64)(hn:n.fG.size<=4000)(hs:m.QG=[]):Ok (Qje n m) (pG m.fe m.QJ n):=by
 have inl:∀r,U6 m.fe m.QJ n=.inl r->pG m.fe m.QJ n (.inl r):=λ_ h=>h
 have inr:∀q,U6 m.fe m.QJ n=.inr (q.q.1,q.q.2)->pG m.fe m.QJ n (.inr q):=λ_ h=>h;generalize hQ:pG m.fe m.QJ n=Q at *
 clear hQ;unfold Qje;have q3:∀{a b c:Int} {r:Bool},OU m.fe.fp m.fe.fo n.fw [QK a,QK b,QK c]=r->(r=true->m.fe.fp=a/\m.fe.fo=b/\n.fw=c)/\(r=false->¬(m.fe.fp=a/\m.fe.fo=b/\n.fw=c)):=(by grind [Ge]);have rP:=Qqf n.fG m h hn;refine Ok.e (λh0=>?_) λh0=>Ok.e (λh1=>?_) λh1=>Ok.e (λh2=>?_) λh2=>Ok.e (λh3=>?_) λh3=>Ok.e (λh4=>?_) λh4=>Ok.e (λh5=>?_) λh5=>?_
 ·obtain⟨a,b,c⟩:=(q3 h0).1 rfl;have e:U6 m.fe m.QJ n=Zv m.fe n.fG:=by simp_all [if_pos,U6]
  rw[e] at inl inr;unfold Zv at inl inr;refine Ok.t rfl (Ok.Oy (r:=()) (EX h0) (Ok.Zg rfl ?_));by_cases z:n.fG.size≠32
  ·rw[if_pos z] at rP inr;exact Ok.QO rP (Ok.d (inr _ rfl))
  rw[if_neg z] at rP inr inl;by_cases z2:¬m.fe.fm < 7
  ·rw[if_pos z2] at rP inr;exact Ok.QO rP (Ok.d (inr _ rfl))
  rw[if_neg z2] at rP inr inl;exact Ok.QT rP (Ok.d (inl _ rfl))
 ·obtain⟨a,b,c⟩:=(q3 h1).1 rfl;have e:U6 m.fe m.QJ n=Zv m.fe n.fG:=by simp_all [if_pos,U6]
  rw[e] at inl inr;unfold Zv at inl inr;refine Ok.t rfl (Ok.Oy (r:=()) (EX h1) (Ok.Zg rfl ?_));by_cases z:n.fG.size≠32
  ·rw[if_pos z] at rP inr;exact Ok.QO rP (Ok.d (inr _ rfl))
  rw[if_neg z] at rP inr inl;by_cases z2:¬m.fe.fm < 7
  ·rw[if_pos z2] at rP inr;exact Ok.QO rP (Ok.d (inr _ rfl))
  rw[if_neg z2] at rP inr inl;exact Ok.QT rP (Ok.d (inl _ rfl))
 ·obtain⟨a,b,c⟩:=(q3 h2).1 rfl;have e:U6 m.fe m.QJ n=X7 m.fe n.fG:=by
   simp_all [if_neg,if_pos,U6]
  rw[e] at inl inr;refine Ok.t rfl (Ok.Oy (r:=()) (EX h2) (Ok.Zg rfl ?_));obtain⟨x,x1,x2⟩:=pA n.fG m h hn;cases x with
  | inl r=>exact Ok.QT (show (vT n.fG m).o=_ from x1) (Ok.d (inl _ x2))
  | inr r=>exact Ok.QO (show (vT n.fG m).o=_ from x1) (Ok.d (inr _ x2))
 ·obtain⟨a,b,c⟩:=(q3 h3).1 rfl;have e:U6 m.fe m.QJ n=JQ m.fe n.fG:=by
   simp_all [if_neg,if_pos,U6]
  rw[e] at inl inr;unfold JQ at inl inr;refine Ok.t rfl (Ok.Oy (r:=()) (EX h3) (Ok.Zg rfl ?_));have dP:=Qd9 n.fG m h;by_cases z:n.fG.size≠32
  ·rw[if_pos z] at dP inr;exact Ok.QO dP (Ok.d (inr _ rfl))
  rw[if_neg z] at dP inr inl;by_cases z2:n.fG≠L0 m.fe.fH Xe m.fe.fB
  ·rw[if_pos z2] at dP inr;exact Ok.QO dP (Ok.d (inr _ rfl))
  rw[if_neg z2] at dP inr inl;exact Ok.QT dP (Ok.g (Ok.d (inl _ (by rw[hs];rfl))))
 ·obtain⟨a,b,c⟩:=(q3 h4).1 rfl;have e:U6 m.fe m.QJ n=R3 m.fe m.QJ n.fG:=by
   simp_all [if_neg,if_pos,U6]
  rw[e] at inl inr;refine Ok.t rfl (Ok.Oy (r:=()) (EX h4) (Ok.Zg rfl ?_));obtain⟨x,x1,x2⟩:=Qyo n.fG m h hf;cases x with
  | inl r=>exact Ok.QT (show (vC n.fG m).o=_ from x1) (Ok.d (inl _ x2))
  | inr r=>exact Ok.QO (show (vC n.fG m).o=_ from x1) (Ok.d (inr _ x2))
 ·obtain⟨a,b,c⟩:=(q3 h5).1 rfl;have e:U6 m.fe m.QJ n=G3 m.fe n.fG:=by
   simp_all [if_neg,if_pos,U6]
  rw[e] at inl inr;refine Ok.t rfl (Ok.Oy (r:=()) (EX h5) (Ok.Zg rfl ?_));obtain⟨x,x1,x2⟩:=Qqs n.fG m h hn (h.lk a b);cases x with
  | inl r=>exact Ok.QT (show (vB n.fG m).o=_ from x1) (Ok.d (inl _ x2))
  | inr r=>exact Ok.QO (show (vB n.fG m).o=_ from x1) (Ok.d (inr _ x2))
 ·have n0:=(q3 h0).2 rfl
  have n1:=(q3 h1).2 rfl
  have n2:=(q3 h2).2 rfl
  have n3:=(q3 h3).2 rfl
  have n4:=(q3 h4).2 rfl
  have n5:=(q3 h5).2 rfl
  have e:U6 m.fe m.QJ n=.inr (false,8):=by
   unfold U6;grind
  rw[e] at inl inr;refine Ok.t rfl (Ok.Oy (r:=()) ?_ (Ok.Yz rfl (Ok.d (inr _ rfl))));grind [jE,OU,A6]
def EvR(s:Q2)(v:Q6):(Q2×List Qq)⊕(ze×ze×ze×ze×Bool×Int)->Prop
 | .inl r=>HY s v=.inl r
 | .inr q=>HY s v=.inr (q.q.1,q.q.2)
theorem Qoz(v:Q6)(m:Q8)(h:Vf m.fe)(hf:m.QJ=v.fF)(hf2:v.fF.size<=64)(hn:v.fw=2->v.fP.fG.size<=4000)(hs:m.QG=[])(hk:1<=v.fw/\v.fw<=4):Ok (dQ m v) (EvR m.fe v):=by
 have inl:∀r,HY m.fe v=.inl r->EvR m.fe v (.inl r):=λ_ h=>h
 have inr:∀q,HY m.fe v=.inr (q.q.1,q.q.2)->EvR m.fe v (.inr q):=λ_ h=>h;generalize hQ:EvR m.fe v=Q at *
 clear hQ;unfold dQ;unfold HY at inl inr;refine Ok.e (λh1=>?_) λh1=>?_
 ·rw[if_pos (by simpa using h1)] at inl inr;unfold UX at inl inr;refine Ok.e (λh2=>?_) λh2=>?_
  ·rw[h2,Bool.true_and] at inl inr;cases h3:(m.fe.fo==1) with
   | true=>
    rw[h3,cond_true] at inl;exact Ok.Zg rfl (Ok.c (Qj.o (oC m h)) λr hr=>Ok.d (inl _ (by rw[hr];rfl)))
   | false=>
    rw[h3,cond_false] at inr;exact Ok.Yz rfl (Ok.d (inr _ rfl))
  ·rw[h2,Bool.false_and,cond_false] at inr;exact Ok.Yz rfl (Ok.d (inr _ rfl))
 rw[if_neg (by simpa using h1)] at inl inr;refine Ok.e (λh2=>?_) λh2=>?_
 ·have h2:v.fw=2:=by simpa using h2
  rw[if_pos h2] at inl inr;obtain⟨x,x1,x2⟩:=rL v.fP m h (by rw[hf];exact hf2) (hn h2) hs;rw[hf] at x2;cases x with
  | inl r=>exact Ok.QT (show (Qqm v.fP m).o=_ from x1) (Ok.d (inl _ x2))
  | inr r=>exact Ok.QO (show (Qqm v.fP m).o=_ from x1) (Ok.d (inr _ x2))
 rw[if_neg (by simpa using h2)] at inl inr;refine Ok.e (λh3=>?_) λh3=>?_
 ·rw[if_pos (by simpa using h3)] at inl inr;have tP:=Qhz m h;unfold MM at inl inr;cases hd:(!(Je m.fe.fq m.fe.fk).1) with
  | true=>
   simp_all [cond_true,Ok.QT,Ok.d]
  | false=>
   rw[hd,cond_false] at tP inl inr;cases ha:((GP m.fe.fq m.fe.fk).2 != 0) with
   | true=>
    rw[ha,cond_true] at tP inr;exact Ok.QO tP (Ok.d (inr _ rfl))
   | false=>
    rw[ha,cond_false] at tP inl;exact Ok.QT tP (Ok.d (inl _ rfl))
 rw[if_neg (by simpa using h3)] at inl inr;grind [Ok.t,Ok.e,Ok.d]
theorem Qep(e:Int)(m:Q8):(rF m e).run=some (-1,0,0):=by
 have h1:(Qhv e m).o=some (-1,0,0):=by
  refine Qj.eq ?_;show Ok (Qjx e m) _;unfold Qjx;exact Ok.c FW λr hr=>Ok.d (by rw[hr];rfl)
 refine Vi ?_;unfold rF;exact Ok.o (r:=()) rfl (Ok.ff (Ok.o (r:=()) rfl (Ok.tt (Ok.c (Qj.o h1) λr hr=>Ok.g (Ok.d hr)))))
theorem Qjt(v:Q6)(s:Q2)(h:Vf s)(hf2:v.fF.size<=64)(hn:v.fw=2->v.fP.fG.size<=4000)(hk:1<=v.fw/\v.fw<=4) :
  evR ⟨s,v.fF,[]⟩ v=some (match HY s v with|.inl r=>.inl ⟨r.1,v.fF,r.2⟩|.inr (true,e)=>.inl ⟨Un s e,v.fF,[]⟩|.inr (false,e)=>.inr e):=by
 obtain⟨x,x1,x2⟩:=Qoz v ⟨s,v.fF,[]⟩ h rfl hf2 hn rfl hk;unfold evR;rw[x1];cases x with
 | inl r=>
  rw[show HY s v=.inl r from x2];rfl
 | inr q=>
  obtain⟨q1,q2,q3,q4,q5,q6⟩:=q;rw[show HY s v=.inr (q5,q6) from x2];cases q5 with
  | true=>
   simp only[cond_true,Qep];rfl
  | false=>rfl
theorem Rj(l:List ze)(h:l.length<=100000):(s60 l).o=some ():=by
 show (g60 l).run=_;refine Vi ?_;unfold g60;exact Ok.app (by grind) (Ok.d rfl)
theorem Ww(l:List Qq)(h:l.length<=100000):(s61 l).o=some ():=by
 show (g61 l).run=_;refine Vi ?_;unfold g61;exact Ok.app (by grind) (Ok.d rfl)
def Qho:(Q2×List Qq)⊕(Bool×Int)->Q2×List Qq×Int
 | .inl r=>jF r
 | .inr r=>(Pb,[],r.2)
theorem Vf.at{s:Q2}(h:Vf s){n:Int}(hn:P9 n=true):Vf { s with fk:=n }:=⟨hn,h.sc,h.fr,h.rn,h.ck,h.bd,h.bz,h.pl,h.ps,h.sd,h.td,h.tm,h.pb,h.pp,h.ma,h.ll,h.lk⟩
theorem Qd1(s:Q2)(v:Q6)(h:s.fM.length<=1):∀r,HY s v=.inl r->r.2.length<=1:=by
 intro r hr;have sh:∀(x:Out),(∀q,x=.inl q->q.2.length<=1)->x=.inl r->r.2.length<=1:=λx hx he=>hx r he;unfold HY at hr;split at hr
 ·unfold UX at hr;cases hc:(s.fp==1&&s.fo==1)<;>rw[hc] at hr<;>simp at hr;rw[<-hr];simp
 split at hr
 ·unfold U6 at hr;split at hr
  ·unfold Zv at hr
   (repeat' split at hr)<;>simp at hr
   rw[<-hr];simp
  split at hr
  ·unfold X7 at hr
   (repeat' split at hr)<;>simp at hr
   rw[<-hr];simp
  split at hr
  ·unfold JQ at hr
   (repeat' split at hr)<;>simp at hr
   rw[<-hr];simp
  split at hr
  ·unfold R3 at hr
   (repeat' split at hr)<;>simp at hr<;>(rw[<-hr];simp)
  split at hr
  ·unfold G3 at hr
   (repeat' split at hr)<;>simp at hr
   rw[<-hr];simp
  ·simp at hr
 split at hr
 ·unfold MM at hr;cases hc:(!(Je s.fq s.fk).1)<;>rw[hc] at hr
  ·rw[cond_false] at hr;cases hd:((GP s.fq s.fk).2 != 0)<;>rw[hd] at hr<;>simp at hr;rw[<-hr];exact h
  ·simp at hr;rw[<-hr];simp
 ·simp at hr;rw[<-hr];cases (s.fp==2)
  ·simp
  ·exact h
theorem E9(s:Q2)(v:Q6)(hs:Sm s):Qj (Om s v) (λr=>r=J1 s v):=by
 have key:Ok (eV s v) (λq=>Qho q=J1 s v):=by
  unfold eV;refine Ok.c (AR s hs) λr hr=>?_;subst hr;unfold J1;cases hv:QY s with
  | false=>exact Ok.Yz rfl (Ok.d rfl)
  | true=>
   refine Ok.Zg rfl ?_;rw[cond_true];have vf:=L7 hv;unfold Bp;refine Ok.e (λc1=>?_) λc1=>Ok.Yz rfl (Ok.d (by rw[c1];rfl));refine Ok.e (λc2=>?_) λc2=>Ok.Yz rfl (Ok.d (by rw[c1,c2];rfl));refine Ok.e (λc3=>?_) λc3=>Ok.Yz rfl (Ok.d (by rw[c1,c2,c3];rfl));refine Ok.e (λc4=>?_) λc4=>Ok.Yz rfl (Ok.d (by rw[c1,c2,c3,c4];rfl));cases c5:decide ((v.fF.size:Int)<=64) with
   | false=>exact Ok.Yz rfl (Ok.d (by rw[c1,c2,c3,c4];rfl))
   | true=>
    rw[c1,c2,c3,c4];simp only[Bool.true_and];refine Ok.Zg rfl ?_;have hnw:P9 v.fk=true:=by
     have:=vf.nw;unfold P9 at this ⊢;simp only[zF,zI] at this c3 c4 ⊢;omega
    have vf2:=vf.at hnw
    have hf2:v.fF.size<=64:=by simp at c5;omega
    have hk:1<=v.fw/\v.fw<=4:=by simp at c1 c2;exact⟨c1,c2⟩
    have e1:=Rj s.fJ (by have:=vf.pl;omega)
    have e2:=Ww s.fM (by have:=vf.ll;omega)
    have e3:Qj (s59 v.fF) (λr=>r=v.fF):=by
     show Ok (g59 v.fF) _;unfold g59;exact Ok.c (R:=λ_=>True) (show Ok (dA _) _ from Ok.k (by rw[zI];omega) (Ok.d trivial)) λ_ _=>Ok.d rfl
    have evl:=Qd1 { s with fk:=v.fk } v vf.ll
    have eve:∀(hn:v.fw=2->v.fP.fG.size<=4000),(tK v ⟨{ s with fk:=v.fk },v.fF,[]⟩).o=some (match HY { s with fk:=v.fk } v with|.inl r=>.inl ⟨r.1,v.fF,r.2⟩|.inr (true,e)=>.inl ⟨Un { s with fk:=v.fk } e,v.fF,[]⟩|.inr (false,e)=>.inr e):=λhn=>Qjt v { s with fk:=v.fk } vf2 hf2 hn hk;generalize hE:HY { s with fk:=v.fk } v=E at *
    refine Ok.e (λc6=>?_) λc6=>?_
    ·have k2:v.fw≠2:=by simpa using c6
     have eve:=eve λh=>absurd h k2;refine Ok.Zg rfl (Ok.c e3 λr hr=>?_);subst hr;refine Ok.c (Qj.o e1) λ_ _=>Ok.c (Qj.o e2) λ_ _=>Ok.g (Ok.g (Ok.g ?_));rw[c6,Bool.true_or,cond_true]
     match E,eve,evl with
     | .inl r,eve,evl=>exact Ok.QT eve (Ok.c (Qj.o (Ww r.2 (by have:=evl r rfl;omega))) λ_ _=>Ok.g (Ok.d rfl))
     | .inr (true,e),eve,evl=>exact Ok.QT eve (Ok.c (Qj.o (Ww [] (by simp))) λ_ _=>Ok.g (Ok.d rfl))
     | .inr (false,e),eve,evl=>exact Ok.QO eve (Ok.d rfl)
    ·refine Ok.c (Rq v.fP) λr hr=>?_;rw[c6,Bool.false_or];cases hn:B1 v.fP with
     | false=>
      rw[hn] at hr;subst hr;exact Ok.Yz rfl (Ok.d rfl)
     | true=>
      rw[hn] at hr;subst hr;have eve:=eve λ_=>by
       unfold B1 at hn;simp only[zF,zI] at hn;omega
      refine Ok.Zg rfl (Ok.c e3 λr hr=>?_);subst hr;refine Ok.c (Qj.o e1) λ_ _=>Ok.c (Qj.o e2) λ_ _=>Ok.g (Ok.g (Ok.g ?_));rw[cond_true]
      match E,eve,evl with
      | .inl r,eve,evl=>exact Ok.QT eve (Ok.c (Qj.o (Ww r.2 (by have:=evl r rfl;omega))) λ_ _=>Ok.g (Ok.d rfl))
      | .inr (true,e),eve,evl=>exact Ok.QT eve (Ok.c (Qj.o (Ww [] (by simp))) λ_ _=>Ok.g (Ok.d rfl))
      | .inr (false,e),eve,evl=>exact Ok.QO eve (Ok.d rfl)
 obtain⟨q,h1,h2⟩:=key;refine⟨J1 s v,?_,rfl⟩;show stM s v=_;unfold stM;rw[h1,<-h2];cases q<;>rfl
def Jm(side:Int)(sec bdg fr rn ck:ze)(ps:List ze)(now:Int):Q2:=⟨side,1,now,sec,bdg,fr,rn,ck,ps,0,zg,⟨zg,zg,zg⟩,zg,[],iS,0⟩
def FP(side:Int)(sec bdg fr rn ck:ze)(ps:List ze)(now:Int):Q2×Int:=
 bif QY (Jm side sec bdg fr rn ck ps now) then bif decide ((Zj bdg).fI=xS sec V2) then (Jm side sec bdg fr rn ck ps now,0) else (Pb,2) else (Pb,2)
theorem SS(side:Int)(sec bdg fr rn ck:ze)(ps:List ze)(now:Int)(h:Sm (Jm side sec bdg fr rn ck ps now)):Qj (s30 side sec bdg fr rn ck ps now) (λr=>r=FP side sec bdg fr rn ck ps now):=by
 show Ok (g30 side sec bdg fr rn ck ps now) _;unfold g30 FP;refine Ok.c (Qj.o (Rj ps (by have:=h.pr;show ps.length<=_;exact Nat.le_trans this (by decide)))) λ_ _=>Ok.c FW λr hr=>?_;subst hr;refine Ok.v (AR (Jm side sec bdg fr rn ck ps now) h) λr hr=>?_;subst hr;cases hv:QY (Jm side sec bdg fr rn ck ps now) with
 | false=>exact Ok.t rfl (Ok.d rfl)
 | true=>
  have vf:=L7 hv
  have ho:okB bdg=true:=vf.bd;refine Ok.f rfl (Ok.c (Dq bdg (by have:bdg.size<=86:=vf.bz;omega)) λr hr=>Ok.c (Uo sec) λr2 hr2=>?_);rw[if_pos (show sec.size=32 from vf.sc)] at hr2
  have hr:r.1=Zj bdg:=by rw[hr];unfold Ut;rw[ho];rfl
  subst hr2;rw[hr];generalize xS sec V2=P;generalize (Zj bdg).fI=K;refine Ok.n (R:=λc=>c=!decide (K=P)) (Ok.f rfl (Ok.d (by rw[Bool.eq_iff_iff];simp;exact⟨λh e=>h e.symm,λh e=>h e.symm⟩))) λc hc=>?_;subst hc;cases hk:decide (K=P) with
  | false=>exact Ok.t rfl (Ok.d rfl)
  | true=>exact Ok.f rfl (Ok.g (Ok.d rfl))
theorem kF(side:Int)(sec bdg fr rn ck:ze)(ps:List ze)(now:Int)(h:Sm (Jm side sec bdg fr rn ck ps now)):Qj (iT side sec bdg fr rn ck ps now) (λr=>r=FP side sec bdg fr rn ck ps now):=by
 show Ok (g31 side sec bdg fr rn ck ps now) _;unfold g31 FP;refine Ok.c Vb λr hr=>?_;subst hr
 have hp:ps.length<=1000:=h.pr;refine Ok.app (show (0+ps.length) * 16<=140737488355328 by omega) (Ok.v (SL (Jm side sec bdg fr rn ck ps now) h) λr hr=>?_);subst hr;cases hv:QY (Jm side sec bdg fr rn ck ps now) with
 | false=>exact Ok.t rfl (Ok.d rfl)
 | true=>
  have vf:=L7 hv
  have ho:okB bdg=true:=vf.bd;refine Ok.f rfl (Ok.c (NC bdg) λr hr=>Ok.c AO λr2 hr2=>?_);subst hr2
  have hr:r.1=Zj bdg:=by rw[hr];unfold Ut;rw[ho];rfl
  rw[hr];refine Ok.c (SI sec V2 (show sec.size=32 from vf.sc) WT) λr hr=>?_;subst hr;generalize xS sec V2=P;generalize (Zj bdg).fI=K;cases hk:decide (K=P) with
  | false=>exact Ok.t rfl (Ok.d rfl)
  | true=>exact Ok.f rfl (Ok.g (Ok.d rfl))
end Go.Proofs.YtjdieimefebnfaaGreatDoor
namespace Go.Proofs.YtjdieimefebnfaaGreatDoor
open Go Go.EV Crv
theorem CR(f:Nat->Nat):∀n,Oq f (n+1) % 8=f 0 % 8
 | 0=>by show (0+f 0 * 256 ^ 0) % 8=_;grind
 | n+1=>by
  show (Oq f (n+1)+f (n+1) * 256 ^ (n+1)) % 8=_
  have h:=CR f n;grind
theorem Qu7(k:ze):(2 ^ 254<=Yf (Dc k)/\Yf (Dc k) < 2 ^ 255)/\Yf (Dc k) % 8=0:=by
 rw[Qyq];have e:Oq (qC k) 32=Oq (qC k) 31+qC k 31 * 256 ^ 31:=rfl;have h:=Bk (xV k) 31;have h8:=CR (qC k) 31;have e0:qC k 0=on k 0 / 8 * 8:=rfl;have e1:qC k 31=on k 31 % 64+64:=rfl;grind
theorem xC(k:ze):¬Bb ∣ 2 * Hc (Crv.bits (Yf (Dc k)) 255) 0:=by
 obtain⟨⟨h1,h2⟩,h3⟩:=Qu7 k;rw[Dy,Nat.zero_mul,zW,Nat.mod_eq_of_lt h2];generalize Yf (Dc k)=n at *
 intro hd;obtain⟨m,rfl⟩:∃m,n=8 * m:=⟨n / 8,by omega⟩;have hc:Nat.Coprime Bb 16:=by decide +kernel
 have hd2:Bb ∣ m:=hc.dvd_of_dvd_mul_left (by rwa [show 2 * (8 * m)=16 * m by omega] at hd)
 have hle:=Nat.le_of_dvd (by omega) hd2;grind [Bb]
theorem eO(n:Nat)(u:Fp):YB 121665 u.val (Crv.bits n 255) 1 0 u.val 1=((eL Xv u (Crv.bits n 255) (1,0,u,1)).1.val,(eL Xv u (Crv.bits n 255) (1,0,u,1)).2.1.val):=by
 have e:=XL Xv u (Crv.bits n 255) (1,0,u,1)
 have hc:Xv.val=121665:=by decide +kernel
 have h1:(1:Fp).val=1:=by decide +kernel
 grind
theorem lP(u:Fp)(l:List Bool):(res Xv u l).val=(eL Xv u l (1,0,u,1)).1.val * Gk ((eL Xv u l (1,0,u,1)).2.1.val) % nP:=by
 unfold res;rw[Bq,Gw]
theorem Qus(n u:Nat){x y:Nat}(hu:u < nP)(h:YB 121665 u (Crv.bits n 255) 1 0 u 1=(x,y)):xN n u=x * Gk y % nP:=by
 grind [Nat.mod_eq_of_lt,xN]
theorem yX(n:Nat)(u:Fp):xN n u.val=(res Xv u (Crv.bits n 255)).val:=(Qus n u.val u.isLt (eO n u)).trans (lP u _).symm
theorem rU{n:Nat}(h:n < 2 ^ 255):Yf (OZ n)=n:=by
 have hf:∀i,M2 8 n 255 i < 256:=λi=>Gz 8 n 255 i
 have e:Yf (OZ n)=Oq (λj=>M2 8 n 255 j) 32:=Dk λi hi=>SX hf hi;rw[e]
 have key:∀k,Oq (λj=>M2 8 n 255 j) k=n % 256 ^ k:=λk=>by
  induction k with
  | zero=>exact(Nat.mod_one n).symm
  | succ k ih=>
   show Oq _ k+M2 8 n 255 k * 256 ^ k=_;rw[ih,Nat.pow_succ,Nat.mod_mul];unfold M2;rw[Nat.mod_eq_of_lt h,Nat.pow_mul];grind
 grind
theorem sP:nP < 2 ^ 255:=by decide +kernel
theorem Qup(n u:Nat):xN n u < 2 ^ 255:=Nat.lt_trans (Nat.mod_lt _ (by decide +kernel)) sP
theorem rJ:Yf V2=9:=by decide +kernel
theorem Qwb(a p:ze):Yf (xS a p)=xN (Yf (Dc a)) (Yf p % 2 ^ 255):=by grind [rU,Qup,xS]
def P0(k:ze):ze:=xS k V2
theorem Uh(k:ze):(P0 k).size=32:=ZA _ _
theorem Qy9(k:ze):Yf (P0 k)=(res Xv 9 (Crv.bits (Yf (Dc k)) 255)).val:=by
 unfold P0;rw[Qwb,rJ];exact yX _ 9
theorem yA(a b:ze):xN (Yf (Dc a)) (Yf (P0 b) % 2 ^ 255)=(res Xv (res Xv 9 (Crv.bits (Yf (Dc b)) 255)) (Crv.bits (Yf (Dc a)) 255)).val:=by
 rw[Qy9,Nat.mod_eq_of_lt (Nat.lt_trans (Fin.isLt _) sP)];exact yX _ _
theorem pH(a b:ze):xS a (P0 b)=xS b (P0 a):=by
 grind [yA,dh9,xC,xS]
theorem Qdq(a b:ze):xN (Yf (Dc a)) (Yf (P0 b) % 2 ^ 255)≠0:=by
 grind [yA,dh9,xC,Fin.ext]
end Go.Proofs.YtjdieimefebnfaaGreatDoor
