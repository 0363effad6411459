/- Part X17. -/
import Derived.Test.YtjdieimefebnfaaGreatDoorX16
set_option linter.all false
set_option maxRecDepth 100000
namespace Go.Proofs.YtjdieimefebnfaaGreatDoor
open Go Go.EV
theorem Mg(c:Int):Qy (jC c) (λr=>r=Kc c):=by
 unfold jC;refine Qy.fn ?_;unfold Qks;refine Ok.n (R:=λr=>r=Kc c) ?_ λr hr=>Ok.d hr;unfold Kc;repeat' grind [Ok.e,Ok.d]
 all_goals grind
theorem nQ(c:Int):(!Kc c&&((c != 46)&&(c != 45)))=!V3 c:=by
 grind [V3,MK,Kc,bne]
theorem SE(b:Z7):Qy (Qq5 b) (λr=>r=L9 b):=by
 unfold Qq5;refine Qy.fn ?_;unfold Qms;refine Ok.n (R:=λc=>(c=true->P8 b.fy=false)/\(c=false->1<=b.fy.size/\b.fy.size<=32/\(Kc (QQ b.fy 0)&&Kc (QQ b.fy ((b.fy.size - 1:Nat):Int)))=true)) ?_ λc hc=>?_
 ·refine Ok.e (λh=>Ok.d ⟨λ_=>?_,λh=>(by cases h)⟩) λh=>Ok.e (λh2=>Ok.d ⟨λ_=>?_,λh=>(by cases h)⟩) λh2=>?_
  ·grind [decide_eq_false,P8]
  ·grind [decide_eq_false,P8]
  ·have h0:1<=b.fy.size:=by grind
   have h1:b.fy.size<=32:=by grind
   have e1:Q0 ((b.fy.size:Int) - 1)=((b.fy.size - 1:Nat):Int):=by grind [Z2]
   refine Ok.k (by simp;omega) (Ok.c (Mg _) λr hr=>?_);subst hr;refine Ok.e (λh3=>Ok.d ⟨λ_=>?_,λh=>(by cases h)⟩) λh3=>?_
   ·grind [P8,Kc,QQ]
   ·have h3:Kc (QQ b.fy 0)=true:=by simpa using h3
    rw[e1];grind [Ok.k,Ok.c,Mg,Ok.d,P8,Kc,QQ]
 ·refine Ok.e (λh=>Ok.d ?_) λh=>?_
  ·grind [L9]
  ·obtain⟨h0,h1,h2⟩:=hc.2 h;refine Ok.p (R:=Sum.elim (λ_=>(Q2 b.fy).all V3=false) (λ_=>(Q2 b.fy).all V3=true)) ?_ (λe he=>Ok.d ?_) λe he=>?_
   ·refine Ok.s b.fy.size (by omega) (λk y=>y=(k:Int)/\∀i,i < k->V3 (QQ b.fy (i:Int))=true) (by grind) (λk y hy hk=>?_) λy hy=>?_
    ·obtain⟨rfl,hI⟩:=hy;refine Ok.t (by simp;omega) (Ok.n (R:=λc=>c=!V3 (QQ b.fy (k:Int))) ?_ λc hc=>?_)
     ·grind [Ok.k,Ok.c,Mg,nQ,Ok.e,Ok.d]
     ·subst hc;refine Ok.e (λh=>Ok.d ?_) λh=>Ok.d ?_
      ·grind [Et,Q2,V3]
      ·refine⟨Y0 hk (by omega),λi hi=>?_⟩;grind
    ·obtain⟨rfl,hI⟩:=hy;grind [Ok.f,Ok.d,Et,Q2,V3]
   ·grind [L9,P8,Q2,V3]
   ·have hn:P8 b.fy=true:=by
     grind [decide_eq_true,P8,Q2,V3]
    unfold L9;rw[hn];refine Ok.n (R:=λc=>c=_) ?_ λc hc=>Ok.d hc;simp only[Bool.true_and];repeat' first
     | refine Ok.e (λh=>?_) (λh=>?_)
     | refine Ok.d ?_
    all_goals grind
theorem aZ(n:Nat)(v:Int):Jd (n+1) v=(v / 256 ^ n % 256) :: Jd n v:=by
 induction n generalizing v with
 | zero=>simp[Jd]
 | succ n ih=>
  grind [Int.ediv_ediv_of_nonneg,Int.pow_succ,Int.mul_comm,Jd]
theorem MT(n:Nat)(hn:n<=8)(v:Int)(h0:0<=v)(h:v < 9223372036854775808):Qy (iA (n:Int) v) (λr=>r=Zo n v):=by
 unfold iA;refine Qy.fn ?_;unfold g83;refine Ok.b (R:=λe=>e=Zo n v) ?_ λe he=>Ok.d he;refine Ok.s n (by omega) (λk y=>y=(v / 256 ^ k,Zo k v,(k:Int))) (by rw[Int.pow_zero,Int.ediv_one];rfl) (λk y hy hk=>?_) λy hy=>?_
 ·subst hy;have hp:(0:Int) < 256 ^ k:=Int.pow_pos (by decide);have hv:0<=v / 256 ^ k:=Int.ediv_nonneg h0 (by omega);have hv2:v / 256 ^ k<=v:=Int.ediv_le_self _ h0;have e1:Qk (Int.tmod (v / 256 ^ k) 256)=v / 256 ^ k % 256:=by rw[C2,Int.tmod_eq_emod_of_nonneg hv];omega
  have e2:Q0 (Int.tdiv (v / 256 ^ k) 256)=v / 256 ^ (k+1):=by
   grind [Int.tdiv_eq_ediv_of_nonneg,Int.pow_succ,Int.ediv_ediv_of_nonneg,Z2]
  refine Ok.t (by simp;omega) (Ok.k ?_ (Ok.d ?_))
  ·simp only[E1,T9,List.length_singleton,zM];omega
  ·show (_,_,_)=(_,_,_);rw[e1,e2,Y0 hk (by omega)];have:strOfNums [v / 256 ^ k % 256]++Zo k v=Zo (k+1) v:=by
    unfold Zo;rw[aZ,<-T3];rfl
   rw[this]
 ·subst hy;exact Ok.f (by simp) (Ok.d rfl)
theorem AO(b:Z7)(hv:L9 b=true):Qy (TX b) (λr=>r=W7 b):=by
 obtain⟨h1,h2,h3,h4,h5,h6,h7⟩:=N8 hv;obtain⟨z1,z2⟩:=B1 h1;have hh:bs [102,100]++Zo 1 1=GS:=by decide
 unfold TX;refine Qy.fn ?_;unfold g45;refine Ok.c (MT 1 (by decide) 1 (by decide) (by decide)) λr0 e0=>Ok.k ?_ (Ok.c (MT 6 (by decide) b.fQ h6 (by omega)) λr1 e1=>Ok.k ?_ (Ok.c (MT 6 (by decide) b.fI h3 (by omega)) λr2 e2=>Ok.k ?_ (Ok.c (MT 6 (by decide) b.fF (by omega) (by omega)) λr3 e3=>Ok.k ?_ (Ok.c (MT 1 (by decide) (b.fy.size:Int) (by omega) (by omega)) λr4 e4=>Ok.k ?_ (Ok.k ?_ (Ok.k ?_ (Ok.d ?_)))))));all_goals subst_vars
 all_goals try simp only[hh,ByteArray.size_append,T9,Rl,zM,show (bs [102,100]).size=2 from rfl,h2]
 iterate 7
  ·omega
 ·rfl
theorem pY{l:List Int}(h:∀c,c∈l->0<=c/\c < 256):Jd l.length (num l)=l:=by
 have key:∀(n:Nat) (l:List Int),l.length=n->(∀c,c∈l->0<=c/\c < 256)->Jd n (num l)=l:=by
  intro n;induction n with
  | zero=>intro l hl _;rw[qo.1 hl];rfl
  | succ n ih=>
   intro l hl hb;have hne:l≠[]:=(by grind);have e:=List.dropLast_concat_getLast hne;rw[<-e,Ey];have hc:=hb (l.getLast hne) (List.getLast_mem hne);rw[Jd,show (num l.dropLast * 256+l.getLast hne) / 256=num l.dropLast by omega,show (num l.dropLast * 256+l.getLast hne) % 256=l.getLast hne by omega,ih l.dropLast (by rw[List.length_dropLast];omega) λc hc=>hb c (List.dropLast_subset _ hc)]
 grind
theorem XF{s:ze}{a n:Nat}(h:a+n<=s.size):Zo n (num (Q2 (s.extract a (a+n))))=s.extract a (a+n):=by
 have hl:(Q2 (s.extract a (a+n))).length=n:=by rw[E7,ByteArray.size_extract];omega
 have:=pY (l:=Q2 (s.extract a (a+n))) λc hc=>Ky hc;grind [Jb,Zo]
theorem rA{a b c:ze}:(a++b++c).extract a.size (a.size+b.size)=b:=by
 rw[ByteArray.extract_append,ByteArray.extract_append];have e1:a.extract a.size (a.size+b.size)=zg:=by simp_all
 have e2:b.extract (a.size - a.size) (a.size+b.size - a.size)=b:=by
  simp_all
 grind [ByteArray.extract_eq_empty_iff,ByteArray.size_append,ByteArray.empty_append,ByteArray.append_empty,ByteArray.empty]
theorem dD{s:ze}{a b c:Nat}(h1:a<=b)(h2:b<=c):s.extract a b++s.extract b c=s.extract a c:=by
 grind [ByteArray.ext,ByteArray.data_append,ByteArray.data_extract,Nat.min_eq_left,Nat.max_eq_right]
theorem dV{s:ze}(h:okB s=true):W7 (Zm s)=s:=by
 unfold okB at h;simp only[zL,zM] at h;obtain⟨h1,h2,h3,h4⟩:=h;have hb:=D1 s 21;have hn:(s.extract 22 (22+Hs s)).size=Hs s:=by simp_all
 have e1:Zo 1 ((s.extract 22 (22+Hs s)).size:Int)=s.extract 21 22:=by
  rw[hn];have:=Qza (s:=s) (a:=21) (by omega);rw[show ((Hs s:Nat):Int)=QQ s 21 by unfold Hs;omega,<-show num (Q2 (s.extract 21 22))=QQ s 21 from this];exact XF (s:=s) (a:=21) (n:=1) (by omega)
 have n1:Zo 6 (num (Q2 (s.extract 3 9)))=s.extract 3 9:=XF (a:=3) (n:=6) (by omega);have n2:Zo 6 (num (Q2 (s.extract 9 15)))=s.extract 9 15:=XF (a:=9) (n:=6) (by omega);have n3:Zo 6 (num (Q2 (s.extract 15 21)))=s.extract 15 21:=XF (a:=15) (n:=6) (by omega);show GS++Zo 6 (num (Q2 (s.extract 3 9)))++Zo 6 (num (Q2 (s.extract 9 15)))++Zo 6 (num (Q2 (s.extract 15 21)))++Zo 1 ((s.extract 22 (22+Hs s)).size:Int)++s.extract 22 (22+Hs s)++s.extract (22+Hs s) (54+Hs s)=s;grind [dD,ByteArray.extract_zero_size]
theorem Yn{b:Z7}(hv:L9 b=true):okB (W7 b)=true/\Zm (W7 b)=b:=by
 obtain⟨h1,h2,h3,h4,h5,h6,h7⟩:=N8 hv;obtain⟨z1,z2⟩:=B1 h1;have hz:=Ka hv;have pick:∀(x y z:ze) (a:Nat),a=x.size->(x++y++z).extract a (a+y.size)=y:=(by grind [rA]);have g3:(W7 b).extract 0 3=GS:=by
  have:W7 b=zg++GS++(Zo 6 b.fQ++Zo 6 b.fI++Zo 6 b.fF++Zo 1 (b.fy.size:Int)++b.fy++b.fJ):=by grind [ByteArray.append_assoc,ByteArray.empty_append,W7]
  rw[this];exact pick _ _ _ 0 rfl
 have gn:(W7 b).extract 3 9=Zo 6 b.fQ:=by
  have:W7 b=GS++Zo 6 b.fQ++(Zo 6 b.fI++Zo 6 b.fF++Zo 1 (b.fy.size:Int)++b.fy++b.fJ):=by grind [ByteArray.append_assoc,W7]
  rw[this];have:=pick GS (Zo 6 b.fQ) (Zo 6 b.fI++Zo 6 b.fF++Zo 1 (b.fy.size:Int)++b.fy++b.fJ) 3 rfl;rwa [T9] at this
 have gf:(W7 b).extract 9 15=Zo 6 b.fI:=by
  grind [ByteArray.append_assoc,ByteArray.size_append,T9,W7,GS,Zo]
 have gu:(W7 b).extract 15 21=Zo 6 b.fF:=by
  grind [ByteArray.append_assoc,ByteArray.size_append,T9,W7,GS,Zo]
 have gl:(W7 b).extract 21 22=Zo 1 (b.fy.size:Int):=by
  grind [ByteArray.append_assoc,ByteArray.size_append,T9,W7,GS,Zo]
 have hN:Hs (W7 b)=b.fy.size:=by
  have h8:=Qza (s:=W7 b) (a:=21) (by omega);rw[show (W7 b).extract 21 (21+1)=Zo 1 (b.fy.size:Int) from gl] at h8;have h9:num (Q2 (Zo 1 (b.fy.size:Int)))=(b.fy.size:Int):=by
   unfold Zo;rw[N3 (RV 1 _)];grind [CQ]
  rw[h9] at h8;unfold Hs;grind
 have nb:∀v:Int,0<=v->v < 281474976710656->num (Q2 (Zo 6 v))=v:=λv h0 h=>by
  unfold Zo;rw[N3 (RV 6 _)];grind [CQ]
 have gm:(W7 b).extract 22 (22+b.fy.size)=b.fy:=by
  have:W7 b=(GS++Zo 6 b.fQ++Zo 6 b.fI++Zo 6 b.fF++Zo 1 (b.fy.size:Int))++b.fy++b.fJ:=rfl;grind
 have gk:(W7 b).extract (22+b.fy.size) (54+b.fy.size)=b.fJ:=by
  have:W7 b=(GS++Zo 6 b.fQ++Zo 6 b.fI++Zo 6 b.fF++Zo 1 (b.fy.size:Int)++b.fy)++b.fJ++zg:=by rw[ByteArray.append_empty];rfl
  rw[this];have:=pick (GS++Zo 6 b.fQ++Zo 6 b.fI++Zo 6 b.fF++Zo 1 (b.fy.size:Int)++b.fy) b.fJ zg (22+b.fy.size) (by simp only[ByteArray.size_append,T9];rfl);grind
 have e:Zm (W7 b)=b:=by
  unfold Zm;rw[hN,gm,gk,gn,gf,gu,nb _ h6 (by omega),nb _ h3 (by omega),nb _ (by omega) (by omega)]
 refine⟨?_,e⟩;unfold okB;grind
theorem NR(s:ze):Qy (s69 s) (λr=>r=UQ s):=by
 unfold s69;refine Qy.fn ?_;unfold g69;have szs:okB s=true->55<=s.size/\s.size<=86:=λh=>by
  have e:=Ka (b:=Zm s) (by simp_all [zL,okB]);rw[dV h] at e;obtain⟨z1,z2⟩:=B1 (N8 (b:=Zm s) (by simp_all [zL,okB])).1;omega
 have bad:okB s=false->UQ s=(zB,5):=(by grind [UQ]);refine Ok.n (R:=λc=>c=decide (s.size < 55\/86 < s.size)) (Ok.e (λh=>Ok.d ?_) λh=>Ok.d ?_) λc hc=>?_
 ·grind
 ·grind
 subst hc;refine Ok.e (λh=>Ok.d ?_) λh=>?_
 ·rw[zM] at h;rw[bad ?_];rfl;grind
 ·rw[decide_eq_false_iff_not] at h;have e0:Q0 ((s.size:Int) - 32)=((s.size - 32:Nat):Int):=by grind [Z2]
  rw[e0];simp only[zW];have hz:∀a b:Nat,a<=b->b<=a+7->(s.extract a b).size<=7:=(by grind [ByteArray.size_extract]);refine Ok.k (by simp;omega) (Ok.c (XJ _ (hz 3 9 (by omega) (by omega))) λr1 e1=>Ok.k (by simp;omega) (Ok.c (XJ _ (hz 9 15 (by omega) (by omega))) λr2 e2=>Ok.k (by simp;omega) (Ok.c (XJ _ (hz 15 21 (by omega) (by omega))) λr3 e3=>Ok.k (by simp;omega) (Ok.k (by simp) ?_))));subst e1 e2 e3;generalize hb:Z7.mk (s.extract 22 (s.size - 32)) (s.extract (s.size - 32) s.size) (num (Q2 (s.extract 9 15))) (num (Q2 (s.extract 15 21))) (num (Q2 (s.extract 3 9)))=b;have hm:s.size=54+Hs s->Zm s=b:=(by grind [Zm,Hs]);have key:okB s=(L9 b&&decide (W7 b=s)):=by
   cases ho:okB s with
   | true=>
    have h1:=ho;unfold okB at h1;simp only[zL,zM] at h1;grind [dV]
   | false=>
    symm;cases hv:L9 b with
    | false=>rfl
    | true=>
     rw[Bool.true_and];grind [decide_eq_false,Yn]
  refine Ok.n (R:=λc=>c=!okB s) ?_ λc hc=>?_
  ·grind [Ok.c,SE,Ok.e,Ok.d,AO,L9]
  ·subst hc;refine Ok.e (λh=>Ok.d ?_) λh=>Ok.d ?_
   ·rw[bad (by simpa using h)];rfl
   simp_all [zL,zM,okB,UQ]
theorem uV:((List.range 256).all λn=>decide ((g81 (n:Int)).run=some (Xa (n:Int))))=true:=by kernel_rfl
theorem Vl(c:Int)(h:0<=c/\c < 256):Qy (s81 c) (λr=>r=Xa c):=by
 unfold s81;refine Qy.fn ?_;obtain⟨n,rfl⟩:=Int.eq_ofNat_of_zero_le h.1;have:=zN.1 uV n (by simp;omega);exact⟨_,by grind,rfl⟩
def Yb(c:Int):Int:=if 48<=c/\c<=57 then c - 48 else if 65<=c/\c<=70 then c - 55 else -1
theorem VV:((List.range 256).all λn=>(Qm8 (n:Int)).run==some (Yb (n:Int)))=true:=by kernel_rfl
theorem AL(c:Int)(h:0<=c/\c < 256):Qy (lQ c) (λr=>r=Yb c):=by
 unfold lQ;refine Qy.fn ?_;obtain⟨n,rfl⟩:=Int.eq_ofNat_of_zero_le h.1;have:=zN.1 VV n (by simp;omega);exact⟨_,by grind,rfl⟩
theorem xU(c:Int):decide (Yb c < 0)=!HY c:=by
 unfold Yb HY;grind
theorem eZ:((List.range 256).all λa=>(List.range 256).all λb=>!(HY (a:Int)&&HY (b:Int)) || (CP (16 * Yb (a:Int)+Yb (b:Int))==(a:Int)&&(CE (16 * Yb (a:Int)+Yb (b:Int))==(b:Int)&&decide (16 * Yb (a:Int)+Yb (b:Int) < 256/\0<=16 * Yb (a:Int)+Yb (b:Int)))))=true:=by kernel_rfl
theorem CS{a b:Int}(ha:0<=a/\a < 256)(hb:0<=b/\b < 256)(h1:HY a=true)(h2:HY b=true):CP (16 * Yb a+Yb b)=a/\CE (16 * Yb a+Yb b)=b/\0<=16 * Yb a+Yb b/\16 * Yb a+Yb b < 256:=by
 obtain⟨n,rfl⟩:=Int.eq_ofNat_of_zero_le ha.1;obtain⟨m,rfl⟩:=Int.eq_ofNat_of_zero_le hb.1;have:=zN.1 (zN.1 eZ n (by simp;omega)) m (by simp;omega);grind
theorem uR(c:Int):(Xa c).size=2:=by unfold Xa;rw[E1];rfl
theorem Fk(l:List Int):(HW l).length=3 * l.length - 1:=by
 induction l with
 | nil=>rfl
 | cons c l ih=>
  cases l with
  | nil=>rfl
  | cons d l=>
   grind [List.length_cons,HW]
theorem Mf(s:ze)(hs:s.size<=100000):Qy (s42 s) (λr=>r=E8 s):=by
 unfold s42;refine Qy.fn ?_;unfold g42;refine Ok.b (R:=λe=>e=E8 s) ?_ λe he=>Ok.d he;refine Ok.s s.size (by omega) (λk y=>y=(V7++strOfNums (HW ((Q2 s).take k)),(k:Int))) rfl (λk y hy hk=>?_) λy hy=>?_
 ·subst hy;have hlen:((Q2 s).take k).length=k:=by rw[qh,E7];omega
  have hz:(V7++strOfNums (HW ((Q2 s).take k))).size<=8+3 * k:=by
   rw[ByteArray.size_append,E1,Fk,hlen];show 8+_<=_;omega
  have hnil:((Q2 s).take k=[])↔k=0:=by grind
  refine Ok.t (by simp;omega) (Ok.b (R:=λe=>e=V7++strOfNums (if (Q2 s).take k=[] then [] else HW ((Q2 s).take k)++[58])/\e.size<=9+3 * k) ?_ λe he=>?_)
  ·refine Ok.e (λh=>Ok.k ?_ (Ok.d ?_)) λh=>Ok.d ?_
   ·rw[zM];show (V7++strOfNums (HW ((Q2 s).take k))).size+1<=_;omega
   ·have h:0 < k:=by simpa using h
    rw[if_neg (λe=>by rw[hnil] at e;omega)];refine⟨by rw[T3,<-ByteArray.append_assoc];rfl,?_⟩;rw[ByteArray.size_append];show (V7++strOfNums (HW ((Q2 s).take k))).size+1<=_;omega
   ·have h:k=0:=by grind
    rw[if_pos (hnil.2 h)];subst h;exact⟨rfl,Nat.le_trans hz (by omega)⟩
  ·obtain⟨rfl,hz2⟩:=he;refine Ok.k (by simp;omega) (Ok.c (Vl _ (D1 _ _)) λr hr=>?_);subst hr;refine Ok.k ?_ (Ok.d ?_)
   ·rw[zM,uR];omega
   ·show (_,_)=(_,_);rw[Y0 hk (by omega),List.take_add_one,S7 hk];show (_,_)=(V7++strOfNums (HW ((Q2 s).take k++[QQ s (k:Int)])),_);rw[jL,T3,<-ByteArray.append_assoc];rfl
 ·subst hy;refine Ok.f (by simp) (Ok.d ?_);rw[List.take_of_length_le (by rw[E7];omega)];rfl
def ED(p:ze)(i:Nat):Int:=16 * Yb (QQ p ((8+3 * i:Nat):Int))+Yb (QQ p ((9+3 * i:Nat):Int))
def KX(p:ze)(i:Nat):Bool:=HY (QQ p ((8+3 * i:Nat):Int))&&HY (QQ p ((9+3 * i:Nat):Int))
theorem Fm:∀(l:List Int) (i:Nat) (c:Int),l[i]?=some c->(HW l)[3 * i]?=some (CP c)/\(HW l)[3 * i+1]?=some (CE c)/\(i+1 < l.length->(HW l)[3 * i+2]?=some 58)
 | [],i,c,h=>by simp at h
 | [x],i,c,h=>by
  cases i with
  | zero=>simp at h;subst h;exact⟨rfl,rfl,λh=>by simp at h⟩
  | succ i=>simp at h
 | x :: y :: l,i,c,h=>by
  cases i with
  | zero=>simp at h;subst h;exact⟨rfl,rfl,λ_=>rfl⟩
  | succ i=>
   have ih:=Fm (y :: l) i c (by simpa using h);grind [HW]
theorem TD{p:ze}(hp:p.size=103)(hx:∀i,i < 32->KX p i=true):decide (E8 (strOfNums ((List.range 32).map (ED p)))=p)=YF p:=by
 have hx1:∀i,i < 32->HY (QQ p ((8+3 * i:Nat):Int))=true/\HY (QQ p ((9+3 * i:Nat):Int))=true:=λi hi=>by
  simp_all [zL,KX]
 have two:=λi hi=>CS (D1 p ((8+3 * i:Nat):Int)) (D1 p ((9+3 * i:Nat):Int)) (hx1 i hi).1 (hx1 i hi).2;have ho:Q2 (strOfNums ((List.range 32).map (ED p)))=(List.range 32).map (ED p):=N3 λc hc=>by
  obtain⟨i,hi,rfl⟩:=zP.1 hc;have:=two i (by simpa using hi);exact⟨this.2.2.1,this.2.2.2⟩
 generalize hV:(List.range 32).map (ED p)=V at ho;have hVl:V.length=32:=by grind
 have hVg:∀i,i < 32->V[i]?=some (ED p i):=(by grind)
 have hrng:∀c,c∈HW V->0<=c/\c < 256:=by
  have gen:∀l:List Int,∀c,c∈HW l->0<=c/\c < 256:=by
   intro l;induction l with
   | nil=>grind [HW]
   | cons x l ih=>
    cases l with
    | nil=>
     intro c hc;simp only[HW,zY,wj,or_false] at hc;rcases hc with rfl|rfl<;>exact D1 _ _
    | cons y l=>
     intro c hc;simp only[HW,zY] at hc;rcases hc with rfl|rfl|rfl|hc
     ·exact D1 _ _
     ·exact D1 _ _
     ·decide
     grind
  exact gen V
 have hS:Q2 (E8 (strOfNums V))=Q2 V7++HW V:=by simp_all [UR,N3,E8]
 have hSz:(E8 (strOfNums V)).size=103:=by
  rw[<-E7,hS,qc,Fk,hVl];rfl
 have at0:∀i:Nat,i < 8->QQ (E8 (strOfNums V)) (i:Int)=QQ V7 (i:Int):=λi hi=>by
  have h1:=S7 (s:=E8 (strOfNums V)) (k:=i) (by omega);rw[hS,wD (by rw[E7];exact hi),S7 (by exact hi)] at h1;grind
 have at8:∀i:Nat,i < 95->some (QQ (E8 (strOfNums V)) ((8+i:Nat):Int))=(HW V)[i]?:=λi hi=>by
  rw[<-S7 (s:=E8 (strOfNums V)) (k:=8+i) (by omega),hS,wJ (by rw[E7];show 8<=_;omega)];rw[E7,show 8+i - V7.size=i from by show 8+i - 8=i;omega]
 have pt:∀i:Nat,i < 95->(QQ (E8 (strOfNums V)) ((8+i:Nat):Int)=QQ p ((8+i:Nat):Int)↔VK i (QQ p ((8+i:Nat):Int))=true):=λi hi=>by
  have h1:=at8 i hi;obtain⟨g0,g1,g2⟩:=Fm V (i / 3) (ED p (i / 3)) (hVg (i / 3) (by omega));obtain⟨t0,t1,_⟩:=two (i / 3) (by omega);have hx2:=hx1 (i / 3) (by omega);unfold VK;by_cases c2:i % 3=2
  ·grind
  ·rw[if_neg c2];by_cases c0:i % 3=0
   ·rw[show 3 * (i / 3)=i by omega] at g0 t0 hx2;rw[g0] at h1;rw[wu h1];have:CP (ED p (i / 3))=QQ p ((8+i:Nat):Int):=by grind [ED]
    grind
   ·have hi3:i=3 * (i / 3)+1:=by omega
    grind [Option.some.inj,CE,ED,QQ]
 rw[Bool.eq_iff_iff,zM];unfold YF;rw[wg hp,Bool.true_and,zL,zM,zN];constructor
 ·intro h;refine⟨?_,(by grind)⟩;refine GW (by rw[ByteArray.size_extract];show min 8 p.size - 0=8;omega) λi hi=>?_;have hi:i < 8:=by rw[ByteArray.size_extract] at hi;omega
  rw[XG (by omega) (by omega),we,<-at0 i hi,h]
 ·intro ⟨h1,h2⟩;refine GW (by omega) λi hi=>?_;by_cases h8:i < 8
  ·rw[at0 i h8,<-h1,XG (by omega) (by omega),we]
  ·have:=(pt (i - 8) (by omega)).2 (h2 (i - 8) (by simp;omega));rwa [show 8+(i - 8)=i by omega] at this
theorem SM(p:ze)(hs:p.size<=1000000):Qy (Qqy p) (λr=>r=YF p):=by
 unfold Qqy;refine Qy.fn ?_;unfold Qe7;refine Ok.e (λh=>Ok.d ?_) λh=>?_
 ·grind [decide_eq_false,YF]
 ·have hp:p.size=103:=by grind
  refine Ok.p (R:=Sum.elim (λ_=>YF p=false) (λe=>e=strOfNums ((List.range 32).map (ED p))/\∀i,i < 32->KX p i=true)) ?_ (λe he=>Ok.d he.symm) λe he=>?_
  ·refine Ok.s 32 (by decide) (λk y=>y=(strOfNums ((List.range k).map (ED p)),(k:Int))/\∀i,i < k->KX p i=true) ⟨rfl,(by grind)⟩ (λk y hy hk=>?_) λy hy=>?_
   ·obtain⟨rfl,hI⟩:=hy;have e3:Q0 ((3:Int) * (k:Int))=((3 * k:Nat):Int):=by grind [Z2]
    have e8:Q0 ((8:Int)+((3 * k:Nat):Int))=((8+3 * k:Nat):Int):=by grind [Z2]
    have e9:Q0 ((9:Int)+((3 * k:Nat):Int))=((9+3 * k:Nat):Int):=by grind [Z2]
    refine Ok.t (by simp;omega) ?_;rw[e3,e8,e9];have b1:=D1 p ((8+3 * k:Nat):Int);have b2:=D1 p ((9+3 * k:Nat):Int);refine Ok.k (by simp;omega) (Ok.c (AL _ b1) λr1 h1=>Ok.k (by simp;omega) (Ok.c (AL _ b2) λr2 h2=>?_));subst h1 h2;refine Ok.n (R:=λc=>c=!KX p k) ?_ λc hc=>?_
    ·grind [Bool.not_and,xU,Ok.e,Ok.d,KX]
    ·subst hc;refine Ok.e (λh=>Ok.d ?_) λh=>?_
     ·have h:KX p k=false:=by simpa using h
      show YF p=false;cases hpr:YF p with
      | false=>rfl
      | true=>
       unfold YF at hpr;simp only[zL,zM,zN] at hpr;have q1:=hpr.2.2 (3 * k) (by simp;omega);have q2:=hpr.2.2 (3 * k+1) (by simp;omega);unfold VK at q1 q2;rw[if_neg (by omega)] at q1 q2;grind [KX]
     ·have h:KX p k=true:=by simpa using h
      have h':=h;unfold KX at h';rw[zL] at h';obtain⟨_,_,v0,v1⟩:=CS b1 b2 h'.1 h'.2;have ev:Qk (Q0 ((Q0 ((16:Int) * Yb (QQ p ((8+3 * k:Nat):Int))))+Yb (QQ p ((9+3 * k:Nat):Int))))=ED p k:=by
       grind [Z2,C2,Yb,QQ,ED]
      rw[ev];refine Ok.k ?_ (Ok.d ⟨?_,λi hi=>?_⟩)
      ·rw[E1,E1,zM];simp;omega
      ·rw[Y0 hk (by decide),List.range_succ,wW,T3];rfl
      grind
   ·obtain⟨rfl,hI⟩:=hy;exact Ok.f rfl (Ok.d ⟨rfl,hI⟩)
  ·obtain⟨rfl,hI⟩:=he;grind [Ok.c,Mf,E1,Ok.d,TD]
theorem Qus{t:P0}(h:t=P0.mk EL J2):cJ t:=by subst h;exact⟨by kernel_rfl,rfl⟩
theorem AI(b:Z7)(hv:L9 b=true):Qy (s44 b) (λr=>r=E8 (Mq (W7 b))):=by
 have hz:=Ka hv;obtain⟨n1,n2⟩:=B1 (N8 hv).1;unfold s44;refine Qy.fn ?_;unfold g44;refine Ok.c Ve λt ht=>Ok.c (AO b hv) λr hr=>?_;subst hr;refine Ok.c (Qz0 t (Qus ht) (W7 b) (by omega)) λr hr=>?_;subst hr;exact Ok.c (Mf _ (by rw[Uc];decide)) λr hr=>Ok.d hr
theorem AA(s:ze):Qy (Xm s) (λr=>r=okB s):=by
 grind [oF,Qy.fn,Ok.c,NR,Ok.d,Xm,Qe9,UQ,okB]
def Cx(p:K4)(k:Int):Bool:=if k=0 then HK p.fG&&(HK p.fR&&HK p.fh) else if k=1 then ZA p.fG&&(ZA p.fR&&HK p.fh) else ZA p.fG&&(ZA p.fR&&okB p.fh)
theorem Vd(p:K4)(k:Int):Qy (vA p k) (λr=>r=Cx p k):=by
 unfold vA;refine Qy.fn ?_;unfold Qm7 Cx;refine Ok.e (λh=>Ok.d ?_) λh=>Ok.e (λh2=>?_) λh2=>?_
 ·rw[if_pos (by simpa using h),Bool.and_true];rfl
 ·rw[if_neg (by simpa using h),if_pos (by simpa using h2)];refine Ok.n (R:=λc=>c=_) ?_ λc hc=>Ok.d hc;rw[<-int32,<-int32];exact J5 λ_=>J5 λ_=>Ok.d rfl
 ·rw[if_neg (by simpa using h),if_neg (by simpa using h2)];refine Ok.n (R:=λc=>c=_) ?_ λc hc=>Ok.d hc;rw[<-int32,<-int32];exact J5 λ_=>J5 (by grind [Ok.c,AA,Ok.d])
theorem Vx(s:Q3)(k:Int):Qy (vX s k) (λr=>r=V6 s k):=by
 unfold vX;refine Qy.fn ?_;unfold Qm6 V6;refine Ok.e (λh=>Ok.d ?_) λh=>?_
 ·rw[if_pos (by simpa using h),G5,Bool.eq_iff_iff];simp
 ·rw[if_neg (by simpa using h)];refine Ok.n (R:=λc=>c=_) ?_ λc hc=>Ok.d hc;refine Ok.e (λh2=>?_) λh2=>Ok.d ?_
  ·obtain⟨n,hn⟩:=Rx (l:=s.fP) (by rw[G5] at h2;simp at h2;omega);rw[hn];refine Ok.r rfl rfl (Ok.c (SK n) λr hr=>?_);show Ok _ (λc=>c=(B7 n&&(n.fw==k&&n.fV==Q0 (s.fo - 1))));rw[<-hr];exact J5 λ_=>Ok.r rfl rfl (J5 λ_=>Ok.r rfl rfl (Ok.d rfl))
  grind [G5]
def Td(s:Q3)(least most told known last:Int)(timer:Bool):Bool:=decide (least<=s.fo)&&(decide (s.fo<=most)&&((s.fq.size:Int)==told&&(timer==decide (0<=s.fD.fB)&&(P3 s known&&V6 s last))))
theorem NA(s:Q3)(k:Int)(hk:k=0\/k=1\/k=2):(Cx s.fj k&&(((s.fC.size:Int)==32)==(k==2)&&!(HK s.fC==(k==2))))=P3 s k:=by
 have e0:HK s.fC=decide (s.fC.size=0):=by unfold HK;simp_all
 unfold Cx P3;rw[int32];rcases hk with rfl|rfl|rfl
 ·simp only[if_true];grind [Bool.and_assoc,decide_eq_false,ZA]
 ·simp only[show ¬(1:Int)=0 by decide,if_true,if_false];grind [Bool.and_assoc,decide_eq_false,ZA]
 ·simp only[show ¬(2:Int)=0 by decide,show ¬(2:Int)=1 by decide,if_false];grind [decide_eq_false,ZA]
theorem FM(s:Q3)(least most told known last:Int)(timer:Bool)(ht:0<=told)(hk:known=0\/known=1\/known=2):Qy (Xk s least most told known (known==2) last timer) (λr=>r=Td s least most told known last timer):=by
 unfold Xk;refine Qy.fn ?_;unfold Qe6 Td;refine Ok.n (R:=λc=>c=_) ?_ λc hc=>Ok.d hc;refine J5 λ_=>J5 λ_=>?_;rw[if_neg (show ¬(0:Int) > told by omega)];refine J5 λ_=>Ok.c (Vd s.fj known) λr hr=>?_;rw[<-NA s known hk,<-hr,show (timer==decide (0<=s.fD.fB)&&(r&&(((s.fC.size:Int)==32)==(known==2)&&!(HK s.fC==(known==2)))&&V6 s last))=(r&&((((s.fC.size:Int)==32)==(known==2))&&(!(HK s.fC==(known==2))&&(V6 s last&&(decide (0<=s.fD.fB)==timer))))) from by
  generalize (((s.fC.size:Int)==32)==(known==2))=A;generalize (!(HK s.fC==(known==2)))=B;generalize V6 s last=C;generalize decide (0<=s.fD.fB)=D;cases A<;>cases B<;>cases C<;>cases D<;>cases r<;>cases timer<;>rfl]
 refine J5 λ_=>J5 λ_=>J5 λ_=>Ok.c (Vx s last) λr2 hr2=>?_;rw[<-hr2];refine J5 λ_=>Ok.c (R:=λr=>r=decide (0<=s.fD.fB)) ⟨_,rfl,rfl⟩ (by grind [Ok.d])
def bT(s:Q3):Bool:=s.ge==2 || (s.ge==4 || (s.ge==6 || (s.ge==9 || s.ge==10)))
def oW(s:Q3):Bool:=
 bif s.fk==7 then Td s 0 8 0 0 0 false&&bT s else
 bif s.ge != 0 then false else
 bif s.fk==1&&s.fp==1 then Td s 0 0 0 0 0 false else
 bif s.fk==1&&s.fo==0 then Td s 0 0 0 0 0 false else
 bif s.fk==1 then Td s 1 6 0 0 2 false else
 bif s.fk==2&&s.fp==1 then Td s 1 1 0 0 1 true else
 bif s.fk==3&&s.fp==1 then Td s 2 7 100 0 1 true else
 bif s.fk==4&&!(s.fp==1) then Td s 1 7 (168+(s.fh.size:Int)) 1 3 true else
 bif s.fk==5&&s.fp==1 then Td s 3 8 (204+((s.fh.size:Int)+(s.fj.fh.size:Int))) 2 4 true else
 bif s.fk==6&&s.fp==1 then Td s 3 8 (240+((s.fh.size:Int)+(s.fj.fh.size:Int))) 2 0 false else
 bif s.fk==6 then Td s 2 8 (240+((s.fh.size:Int)+(s.fj.fh.size:Int))) 2 5 false else false
theorem CX(s:Q3)(x:H8):F5 s x=(s.fp==x.JZ&&(s.fk==x.Yp&&Td s x.ZK x.Un (Uy s x) x.QS x.KA x.UT)):=rfl
theorem yR(s:Q3)(h:s.fp=1\/s.fp=2):oW s=(Xj s&&Y8.any (F5 s)):=by
 unfold Xj oW Y8;simp only[List.any_cons,List.any_nil,Bool.or_false,CX,Uy];by_cases h7:s.fk=7
 ·rw[h7];grind [Bool.and_comm,bT]
 ·rw[if_neg h7];by_cases hw:s.ge=0
  rotate_left
  ·grind
  rw[hw];by_cases h1:s.fk=1
  ·grind [decide_eq_false,Td]
  grind
theorem gV(s:Q3)(h1:s.fp≠1)(h2:s.fp≠2):Y8.any (F5 s)=false:=by
 simp_all [CX,Y8]
theorem O0{P:Program}{G:zi}{a:Nat}{c d e:Bool}{y:T P G Bool}(he:e=!c)(h:c=false->Ok y (λr=>r=!d)):Ok (.br a c (.done true) y) (λr=>r=!(e&&d)):=by
 subst he;exact Dp h
theorem XO{P:Program}{G:zi}{a:Nat}{c d:Bool}{y:T P G Bool}(h:c=false->Ok y (λr=>r=d)):Ok (.br a c (.done true) y) (λr=>r=(c || d)):=by
 simp_all [Ok.e,Ok.d]
def dK(s:Q3):Bool:=decide (0<=s.fm)&&(decide (s.fm<=1099511627776)&&(ZA s.gd&&(ZA s.fZ&&(ZA s.fG&&(UY s&&(okB s.fh&&(decide (s.fL.length<=8)&&(decide (0<=s.fo)&&(decide (s.fo<=8)&&Zt s.fD)))))))))
theorem n32(s:ze):ZA s=!((s.size:Int) != 32):=by rw[<-int32];simp[bne]
theorem oL(s:Q3)(h:Y8.any (F5 s)=true):0<=s.fo/\s.fo<=8:=by
 obtain⟨x,hx,h1⟩:=List.any_eq_true.1 h;have hb:(Y8.all λx=>decide (0<=x.ZK/\x.Un<=8))=true:=by decide
 have hb:=zN.1 hb x hx;unfold F5 at h1;grind
theorem SW(s:Q3)(h:Sm s):Qy (s63 s) (λr=>r=QZ s):=by
 unfold s63;refine Qy.fn ?_;unfold g63;have tail:∀a1 a2 a3 a4 a5:Nat,Ok (T.call a1 (Xm s.fh) [] [] (λr=>.br a2 (!r) (.done true) (.br a3 (decide ((8:Int) < (I5 Z8 s.fL))) (.done true) (.br a4 (decide (s.fo < 0)) (.done true) (.br a5 (decide ((8:Int) < s.fo)) (.done true) (.cl 2079 (Ai s.fD) λr2=>.done (!r2)))))):TT Bool) (λr=>r=!(okB s.fh&&(decide (s.fL.length<=8)&&(decide (0<=s.fo)&&(decide (s.fo<=8)&&Zt s.fD))))):=λa1 a2 a3 a4 a5=>by
  refine Ok.c (AA _) λr hr=>?_;rw[<-hr];refine O0 (by simp) λ_=>O0 (by rw[G5,Qzc,Bool.not_not,decide_eq_decide];omega) λ_=>O0 (by grind) λ_=>O0 (by grind) (by grind [Ok.c,kM,Ok.d])
 refine Ok.n (R:=λc=>c=!(decide (s.fp=1\/s.fp=2)&&dK s)) ?_ λc hc=>?_
 ·unfold dK UY;by_cases h1:s.fp=1
  ·rw[wg (Or.inl h1),Bool.true_and];rw[if_neg (by omega)];simp only[h1];refine Ok.f rfl (O0 (by grind) λ_=>O0 (by grind) λ_=>O0 (n32 _) λ_=>O0 (n32 _) λ_=>O0 (n32 _) λ_=>Ok.t rfl (O0 (by unfold HK;simp) λ_=>Ok.f rfl (tail _ _ _ _ _)))
  ·by_cases h2:s.fp=2
   ·rw[wg (Or.inr h2),Bool.true_and];rw[if_pos h2];simp only[h2];refine Ok.t rfl (Ok.f rfl (O0 (by grind) λ_=>O0 (by grind) λ_=>O0 (n32 _) λ_=>O0 (n32 _) λ_=>O0 (n32 _) λ_=>Ok.f rfl (Ok.t rfl (O0 (n32 _) λ_=>tail _ _ _ _ _))))
   ·rw[show decide (s.fp=1\/s.fp=2)=false from qm (λq=>q.elim h1 h2),Bool.false_and];exact Ok.t (by simpa using h1) (Ok.t (by simpa using h2) (Ok.d rfl))
 subst hc;have eq0:QZ s=((decide (s.fp=1\/s.fp=2)&&dK s)&&(s.fL.all YF&&oW s)):=by
  unfold QZ Rt dK Uk;by_cases hs:s.fp=1\/s.fp=2
  ·rw[wg hs,yR s hs,Bool.true_and];unfold T5;cases ha:Y8.any (F5 s) with
   | false=>simp
   | true=>
    obtain⟨q1,q2⟩:=oL s ha;grind
  grind [decide_eq_false,gV]
 rw[eq0];cases hF:(decide (s.fp=1\/s.fp=2)&&dK s) with
 | false=>exact Ok.t rfl (Ok.d rfl)
 | true=>
  refine Ok.f rfl ?_;rw[Bool.true_and];have zb:(s.fh.size:Int)<=100000:=by have:=h.bd;omega
  have zp:(s.fj.fh.size:Int)<=100000:=by have:=h.pb;omega
  have w1:Q0 ((168:Int)+(s.fh.size:Int))=168+(s.fh.size:Int):=Z2 (by omega) (by omega);have w2:Q0 ((s.fh.size:Int)+(s.fj.fh.size:Int))=(s.fh.size:Int)+(s.fj.fh.size:Int):=Z2 (by omega) (by omega);have w3:Q0 ((204:Int)+((s.fh.size:Int)+(s.fj.fh.size:Int)))=204+((s.fh.size:Int)+(s.fj.fh.size:Int)):=Z2 (by omega) (by omega);have w4:Q0 ((240:Int)+((s.fh.size:Int)+(s.fj.fh.size:Int)))=240+((s.fh.size:Int)+(s.fj.fh.size:Int)):=Z2 (by omega) (by omega);refine Ok.p (R:=Sum.elim (λ_=>s.fL.all YF=false) (λ_=>s.fL.all YF=true)) ?_ (by grind [Ok.d,YF]) λe he=>?_
  ·have hl:=h.pr;refine Ok.s s.fL.length (by omega) (λk y=>y=(k:Int)/\((s.fL.take k).any λx=>!YF x)=false) ⟨rfl,rfl⟩ (λk y hy hk=>?_) λy hy=>?_
   ·obtain⟨rfl,h1⟩:=hy;obtain⟨x,hx,hx'⟩:=G2 (l:=s.fL) (k:=k) hk;have h2:=Ja hx' h1;refine Ok.t (by grind [G5]) (Ok.r (by simp) hx (Ok.c (SM x (by have:=h.ps x (wd hx');omega)) λr hr=>?_));grind [Ok.e,Ok.d,C0,XM,Y0,YF]
   ·obtain⟨rfl,h1⟩:=hy;grind [List.take_length,Ok.f,G5,Ok.d,XM,YF]
  rw[show s.fL.all YF=true from he,Bool.true_and];unfold oW;have as0:=λ(a b c e:Int) (t:Bool) (hc:0<=c)=>FM s a b c 0 e t hc (.inl rfl);have as1:=λ(a b c e:Int) (t:Bool) (hc:0<=c)=>FM s a b c 1 e t hc (.inr (.inl rfl));have as2:=λ(a b c e:Int) (t:Bool) (hc:0<=c)=>FM s a b c 2 e t hc (.inr (.inr rfl));have bz:(0:Int)<=(s.fh.size:Int):=by omega
  have pz:(0:Int)<=(s.fj.fh.size:Int):=by omega
  refine Ok.e (λh1=>?_) λh1=>?_
  ·rw[h1,cond_true];refine Ok.n (R:=λc=>c=_) ?_ λc hc=>Ok.d hc;refine Ok.c (as0 0 8 0 0 false (by decide)) λr hr=>?_;rw[<-hr];unfold bT;exact J5 λ_=>XO λ_=>XO λ_=>XO λ_=>XO λ_=>Ok.d rfl
  rw[h1,cond_false];refine Ok.e (λh2=>Ok.d (by rw[h2];rfl)) λh2=>?_;rw[h2,cond_false];refine Ok.n (R:=λc=>c=(s.fk==1&&s.fp==1)) (J5 λ_=>Ok.d rfl) λc hc=>?_;rw[<-hc];refine Ok.e (λh3=>?_) λh3=>?_
  ·rw[h3,cond_true];exact Ok.c (as0 0 0 0 0 false (by decide)) λr hr=>Ok.d hr
  rw[h3,cond_false];refine Ok.n (R:=λc=>c=(s.fk==1&&s.fo==0)) (J5 λ_=>Ok.d rfl) λc hc=>?_;rw[<-hc];refine Ok.e (λh4=>?_) λh4=>?_
  ·rw[h4,cond_true];exact Ok.c (as0 0 0 0 0 false (by decide)) λr hr=>Ok.d hr
  rw[h4,cond_false];refine Ok.e (λh5=>?_) λh5=>?_
  ·rw[h5,cond_true];exact Ok.c (as0 1 6 0 2 false (by decide)) λr hr=>Ok.d hr
  rw[h5,cond_false];refine Ok.n (R:=λc=>c=(s.fk==2&&s.fp==1)) (J5 λ_=>Ok.d rfl) λc hc=>?_;rw[<-hc];refine Ok.e (λh6=>?_) λh6=>?_
  ·rw[h6,cond_true];exact Ok.c (as0 1 1 0 1 true (by decide)) λr hr=>Ok.d hr
  rw[h6,cond_false];refine Ok.n (R:=λc=>c=(s.fk==3&&s.fp==1)) (J5 λ_=>Ok.d rfl) λc hc=>?_;rw[<-hc];refine Ok.e (λh6=>?_) λh6=>?_
  ·rw[h6,cond_true];exact Ok.c (as0 2 7 100 1 true (by decide)) λr hr=>Ok.d hr
  rw[h6,cond_false];refine Ok.n (R:=λc=>c=(s.fk==4&&!(s.fp==1))) (J5 λ_=>Ok.d rfl) λc hc=>?_;rw[<-hc];refine Ok.e (λh6=>?_) λh6=>?_
  ·rw[h6,cond_true,w1];exact Ok.c (as1 1 7 _ 3 true (by omega)) λr hr=>Ok.d hr
  rw[h6,cond_false];refine Ok.n (R:=λc=>c=(s.fk==5&&s.fp==1)) (J5 λ_=>Ok.d rfl) λc hc=>?_;rw[<-hc];refine Ok.e (λh6=>?_) λh6=>?_
  ·rw[h6,cond_true,w2,w3];exact Ok.c (as2 3 8 _ 4 true (by omega)) λr hr=>Ok.d hr
  rw[h6,cond_false];refine Ok.n (R:=λc=>c=(s.fk==6&&s.fp==1)) (J5 λ_=>Ok.d rfl) λc hc=>?_;rw[<-hc];refine Ok.e (λh6=>?_) λh6=>?_
  ·rw[h6,cond_true,w2,w4];exact Ok.c (as2 3 8 _ 0 false (by omega)) λr hr=>Ok.d hr
  rw[h6,cond_false];refine Ok.e (λh6=>?_) λh6=>?_
  ·rw[h6,cond_true,w2,w4];exact Ok.c (as2 2 8 _ 5 false (by omega)) λr hr=>Ok.d hr
  rw[h6,cond_false];exact Ok.d rfl
end Go.Proofs.YtjdieimefebnfaaGreatDoor
namespace Go.Proofs.YtjdieimefebnfaaGreatDoor
open Go Go.EV Crv
def vF(f:Nat->Int):Nat->Int
 | 0=>0
 | n+1=>vF f n+f n * 65536 ^ n
theorem E5(f:Nat->Int)(n:Nat):vF f (n+1)=vF f n+f n * 65536 ^ n:=rfl
theorem Mo(n:Nat):(0:Int) < 65536 ^ n:=Int.pow_pos (by decide)
theorem FQ(n:Nat):(65536:Int) ^ (n+1)=65536 * 65536 ^ n:=by grind
theorem ZR{f g:Nat->Int}:∀{n:Nat},(∀i,i < n->f i=g i)->vF f n=vF g n
 | 0,_=>rfl
 | n+1,h=>by rw[E5,E5,ZR λi hi=>h i (by omega),h n (by omega)]
theorem X6(f:Nat->Int)(j:Nat)(x:Int):U6 f j x j=x:=by unfold U6;simp
theorem D7{f:Nat->Int}{j i:Nat}{x:Int}(h:i≠j):U6 f j x i=f i:=by grind [U6]
theorem KT(f:Nat->Int)(x:Int){j:Nat}:∀{n:Nat},j < n->vF (U6 f j x) n=vF f n+(x - f j) * 65536 ^ j
 | n+1,h=>by
  rw[E5,E5];rcases qa j n with h1|h1
  ·rw[KT f x h1,D7 (by omega)];omega
  ·obtain rfl:j=n:=by omega
   grind [ZR,D7,X6,Int.sub_mul,vF,U6]
theorem LB(f g:Nat->Int):∀n,vF (λi=>f i+g i) n=vF f n+vF g n
 | 0=>rfl
 | n+1=>by rw[E5,E5,E5,LB f g n,Int.add_mul];omega
theorem BN(c:Int)(f:Nat->Int):∀n,vF (λi=>c * f i) n=c * vF f n
 | 0=>by show (0:Int)=c * 0;omega
 | n+1=>by rw[E5,E5,BN c f n,Int.mul_add,Int.mul_assoc]
theorem Uq(f:Nat->Int)(m:Nat):∀n,vF f (m+n)=vF f m+65536 ^ m * vF (λi=>f (m+i)) n
 | 0=>by grind [vF]
 | n+1=>by
  show vF f (m+n)+f (m+n) * 65536 ^ (m+n)=_;rw[Uq f m n,E5,Int.pow_add,Int.mul_add];grind
theorem V9{f:Nat->Int}:∀{n:Nat},(∀i,i < n->0<=f i)->0<=vF f n
 | 0,_=>by show (0:Int)<=0;omega
 | n+1,h=>by
  rw[E5];have h1:=V9 λi (hi:i < n)=>h i (by omega);have h2:=Int.mul_nonneg (h n (by omega)) (Int.le_of_lt (Mo n));omega
theorem OL{f:Nat->Int}:∀{n:Nat},(∀i,i < n->0<=f i/\f i < 65536)->vF f n < 65536 ^ n
 | 0,_=>by show (0:Int) < 1;omega
 | n+1,h=>by
  rw[E5,FQ];have h1:=OL λi (hi:i < n)=>h i (by omega);have h2:=Int.mul_le_mul_of_nonneg_right (show f n<=65535 by have:=h n (by omega);omega) (Int.le_of_lt (Mo n));omega
theorem yL{f:Nat->Int}(n:Nat)(h:∀i,i < n+1->0<=f i):f 0<=vF f (n+1):=by
 have e:=Uq f 1 n;rw[Nat.add_comm 1 n] at e;have h2:=Int.mul_nonneg (Int.le_of_lt (Mo 1)) (V9 (f:=λi=>f (1+i)) (n:=n) λi hi=>h _ (by omega));grind [vF]
def H6(f:Nat->Int):Prop:=∀i,i < 16->0<=f i/\f i < 65536
def nF(f:Nat->Int):Nat:=md (vF f 16)
theorem w16:(65536:Int) ^ 16=115792089237316195423570985008687907853269984665640564039457584007913129639936:=by decide
theorem Qii(f:Nat->Int):nF f < nP:=mF _
theorem US{f:Nat->Int}(h:H6 f):0<=vF f 16/\vF f 16 < 115792089237316195423570985008687907853269984665640564039457584007913129639936:=⟨V9 λi hi=>(h i hi).1,by rw[<-w16];exact OL h⟩
theorem vat{k m:Nat}(h:k < m):(bif decide (0<=(k:Int))&&decide ((k:Int) < (m:Int)) then some () else none)=some ():=by
 grind
theorem Qdz(f:Nat->Int){k:Nat}(h:k < 16):(Y7 f)[0+(k:Int).toNat]?=some (f k):=by rw[zW,we,MX,if_pos h]
theorem UN{ρ:Type}{Q:ρ->Prop}{a a2:Nat}{o i:Operand}{d b k:Nat}{f:Nat->Int}{K:Int->TT ρ}(h:k < 16)(hk:Ok (K (f k)) Q):Ok (.Qq a (MH o i d b f (k:Int)) λ_=>.row a2 Q6 (Y7 f) (0+(k:Int).toNat) true K) Q:=
 Ok.o (r:=()) (vat (m:=16) h) (Ok.r rfl (Qdz f h) hk)
theorem car{c x:Int}(h0:0<=c+x)(h1:c+x < 9223372036854775808):Q0 (c+x)=c+x/\Int.tmod (Q0 (c+x)) 65536=(c+x) % 65536/\Q0 (Int.tdiv (Q0 (c+x)) 65536)=(c+x) / 65536:=by
 have e:=Z2 (n:=c+x) (by omega) (by omega);have e1:Int.tmod (c+x) 65536=(c+x) % 65536:=(by grind)
 have e2:Int.tdiv (c+x) 65536=(c+x) / 65536:=(by grind);rw[e,e1,e2];exact⟨rfl,rfl,Z2 (by omega) (by omega)⟩
def L8(f:Nat->Int)(c0 B:Int)(k:Nat)(h:Nat->Int)(c:Int):Prop:=(∀i,i < k->0<=h i/\h i < 65536)/\(∀i,k<=i->h i=f i)/\vF h k+c * 65536 ^ k=vF f k+c0/\0<=c/\c<=B
theorem RO(f:Nat->Int){c0 B:Int}(h:0<=c0/\c0<=B):L8 f c0 B 0 f c0:=⟨λi hi=>by omega,λ_ _=>rfl,by grind,h.1,h.2⟩
theorem En{f:Nat->Int}{c0 B:Int}{k:Nat}{h:Nat->Int}{c:Int}(H:L8 f c0 B k h c)(hf:0<=f k/\f k<=B)(hB:1<=B):L8 f c0 B (k+1) (U6 h k ((c+f k) % 65536)) ((c+f k) / 65536):=by
 obtain⟨h1,h2,h3,h4,h5⟩:=H;refine⟨λi hi=>?_,λi hi=>?_,?_,by omega,by omega⟩
 ·grind [X6,D7]
 ·grind [D7]
 ·have ec:vF (U6 h k ((c+f k) % 65536)) k=vF h k:=ZR (by grind [D7]);grind [E5,X6,FQ,Int.add_mul]
def RS:Nat->(Nat->Int)->Prop
 | 0,f=>∀i,i < 16->0<=f i/\f i<=4503599627370496
 | 1,f=>(∀i,i < 16->0<=f i/\f i<=576460752303423488)/\vF f 16<=115792089237316195423570985008687907853269984665640564039458160468665433063424
 | 2,f=>(∀i,i < 16->0<=f i/\f i<=576460752303423488)/\vF f 16 < 115792089237316195423570985008687907853269984665640564039457584007913129639974
 | _,f=>H6 f
theorem Qd2{r:Nat}{f:Nat->Int}(h:RS r f):∀i,i < 16->0<=f i/\f i<=576460752303423488:=λi hi=>by
 match r,h with
 | 0,h=>have:=h i hi;omega
 | 1,h=>exact h.1 i hi
 | 2,h=>exact h.1 i hi
 | n+3,h=>have:0<=f i/\f i < 65536:=h i hi;omega
theorem pM{r:Nat}{f h:Nat->Int}{c:Int}(hf:RS r f)(H:L8 f 0 576460752303423488 16 h c):RS (r+1) (U6 h 0 (h 0+38 * c))/\md (vF (U6 h 0 (h 0+38 * c)) 16)=md (vF f 16)/\h 0+38 * c < 9223372036854775808/\0<=h 0+38 * c:=by
 obtain⟨h1,h2,h3,h4,h5⟩:=H;have hl:H6 h:=h1;have hv:=US hl;have h0:=h1 0 (by decide);rw[w16] at h3;have e:vF (U6 h 0 (h 0+38 * c)) 16=vF h 16+38 * c:=by
  grind [KT,vF]
 have em:md (vF (U6 h 0 (h 0+38 * c)) 16)=md (vF f 16):=by
  rw[e,<-Wi _ (2 * c)];grind
 have hb:∀C:Int,65536<=C->h 0+38 * c<=C->∀i,i < 16->0<=U6 h 0 (h 0+38 * c) i/\U6 h 0 (h 0+38 * c) i<=C:=(by grind [X6,D7])
 match r,hf with
 | 0,hf=>
  have c1:c<=4503599627370496 * 2:=by
   have hu:∀n,n<=16->vF f n<=4503599627370496 * (2 * 65536 ^ n):=λn=>by
    induction n with
    | zero=>intro _;show (0:Int)<=_;omega
    | succ n ih=>
     intro hn;have:=Int.mul_le_mul_of_nonneg_right (hf n (by omega)).2 (Int.le_of_lt (Mo n));grind [E5,FQ,Mo]
   grind
  exact⟨⟨hb _ (by decide) (by omega),by rw[e];omega⟩,em,by omega,by omega⟩
 | 1,hf=>
  have c1:c<=1:=by have:=hf.2;omega
  exact⟨⟨hb _ (by decide) (by omega),by grind⟩,em,by omega,by omega⟩
 | 2,hf=>
  have c1:c<=1:=by have:=hf.2;omega
  have hf1:=yL 15 λi hi=>(h1 i hi).1;refine⟨λi hi=>?_,em,by omega,by omega⟩;by_cases ei:i=0
  ·subst ei;rw[X6];have:=hf.2;grind
  grind [D7]
 | n+3,hf=>
  have hfv:=US hf;have c1:c=0:=by omega
  refine⟨λi hi=>?_,em,by omega,by omega⟩;grind [X6,D7]
theorem Qd7{p q:Prop}[Decidable p][Decidable q](h:p↔q)(x y:Int):(if p then x else y)=if q then x else y:=by
 grind
def lg(l:List Int)(i:Nat):Int:=l.getD i 0
theorem Kw{l:List Int}{k:Nat}(h:k < l.length):l[k]?=some (lg l k):=by grind [List.getElem?_eq_getElem,lg]
theorem Gq{l:List Int}{k:Nat}(h:l.length<=k):lg l k=0:=by grind [List.getElem?_eq_none,lg]
theorem kL(l:List Int)(hn:16<=l.length/\l.length<=31)(hl:∀i,0<=lg l i/\lg l i<=70368744177664):Qy (TL l) (λr=>H6 r/\nF r=md (vF (lg l) l.length)):=by
 unfold TL;refine Qy.fn ?_;unfold Qkp;refine Ok.o rfl (Ok.o rfl (Ok.b (R:=λe=>∀i,i < 16->e i=lg l i+38 * lg l (16+i)) ?_ λe he=>?_))
 ·refine Ok.s l.length (by omega) (λk y=>(∀i,i < 16->y.1 i=(if i < k then lg l i else 0)+38 * (if 16+i < k then lg l (16+i) else 0))/\y.2=(k:Int)) (by grind) (λk y hy hk=>?_) λy hy=>?_
  ·obtain⟨f,i⟩:=y;obtain⟨h1,rfl⟩:(∀i,i < 16->f i=(if i < k then lg l i else 0)+38 * (if 16+i < k then lg l (16+i) else 0))/\i=(k:Int):=hy;refine Ok.t (by grind [Jc,decide_eq_true]) (Ok.e (λhc=>?_) λhc=>?_)
   ·have hc:(k:Int) < 16:=by simpa using hc
    have hk16:k < 16:=by omega
    refine UN hk16 (Ok.r (by simp) (by rw[zW];exact Kw hk) (UN hk16 (Ok.re (Ok.d ⟨λj hj=>?_,Y0 hk (by omega)⟩))));have hlk:=hl k;have hfk:=h1 k hk16;rw[if_neg (by omega),if_neg (by omega)] at hfk;rw[zW,we];show U6 f k (Q0 (f k+lg l k)) j=_;rw[hfk,Z2 (by omega) (by omega)];by_cases e:j=k
    ·subst e;rw[X6,if_pos (by omega),if_neg (by omega)];omega
    ·rw[D7 e,h1 j hj];grind
   ·have hc:16<=(k:Int):=by simpa using hc
    have e16:Q0 ((k:Int) - 16)=((k - 16:Nat):Int):=by grind [Z2]
    have hk16:k - 16 < 16:=by omega
    simp only[e16];refine UN hk16 (Ok.r (by simp) (by rw[zW];exact Kw hk) (UN hk16 (Ok.re (Ok.d ⟨λj hj=>?_,Y0 hk (by omega)⟩))));have hlk:=hl k;have hlk2:=hl (k - 16);have hfk:=h1 (k - 16) hk16;rw[if_pos (by omega),if_neg (by omega)] at hfk;rw[zW,we];show U6 f (k - 16) (Q0 (f (k - 16)+Q0 ((38:Int) * lg l k))) j=_;rw[hfk,Z2 (n:=38 * lg l k) (by omega) (by omega),Z2 (by omega) (by omega)];by_cases e:j=k - 16
    ·subst e;rw[X6,if_pos (by omega),if_pos (by omega),show 16+(k - 16)=k by omega];omega
    ·rw[D7 e,h1 j hj];grind
  ·obtain⟨f,i⟩:=y;obtain⟨h1,rfl⟩:(∀i,i < 16->f i=(if i < l.length then lg l i else 0)+38 * (if 16+i < l.length then lg l (16+i) else 0))/\i=((l.length:Nat):Int):=hy;refine Ok.f (by grind [Jc,decide_eq_false]) (Ok.d λi hi=>?_);show f i=_;rw[h1 i hi,if_pos (by omega)];by_cases e:16+i < l.length
   ·rw[if_pos e]
   simp_all [if_neg,Gq]
 ·have hv:md (vF e 16)=md (vF (lg l) l.length):=by
   have e1:vF e 16=vF (lg l) 16+38 * vF (λi=>lg l (16+i)) 16:=by
    rw[<-BN,<-LB];exact ZR he
   have e2:vF (lg l) l.length=vF (lg l) 32:=by
    have:=Uq (lg l) l.length (32 - l.length);rw[show l.length+(32 - l.length)=32 by omega] at this;have z:∀n,vF (λi=>lg l (l.length+i)) n=0:=λn=>by
     induction n with
     | zero=>rfl
     | succ n ih=>grind [E5,Gq]
    grind
   have e3:vF (lg l) 32=vF (lg l) 16+65536 ^ 16 * vF (λi=>lg l (16+i)) 16:=Uq (lg l) 16 16;rw[e2,e3,w16,e1,<-Wi _ (2 * vF (λi=>lg l (16+i)) 16)];congr 1;omega
  have h0:RS 0 e:=λi hi=>by
   grind
  refine Ok.b (R:=λr=>H6 r/\md (vF r 16)=md (vF e 16)) ?_ λr hr=>Ok.o rfl (Ok.o rfl (Ok.d ⟨hr.1,hr.2.trans hv⟩));refine Ok.s 3 (by decide) (λr y=>(RS r y.1/\md (vF y.1 16)=md (vF e 16))/\y.2=(r:Int)) ⟨⟨h0,rfl⟩,rfl⟩ (λr y hy hr=>?_) λy hy=>?_
  ·obtain⟨f,i⟩:=y;obtain⟨⟨h1,h2⟩,rfl⟩:(RS r f/\md (vF f 16)=md (vF e 16))/\i=(r:Int):=hy;have hle:=Qd2 h1;refine Ok.t (by grind) (Ok.b (R:=λq=>L8 f 0 576460752303423488 16 q.1 q.2) ?_ λq hq=>?_)
   ·refine Ok.s 16 (by decide) (λk y=>L8 f 0 576460752303423488 k y.1 y.2.1/\y.2.2=(k:Int)) ⟨RO f ⟨by decide,by decide⟩,rfl⟩ (λk y hy hk=>?_) λy hy=>?_
    ·obtain⟨h,c,i⟩:=y;obtain⟨H,rfl⟩:L8 f 0 576460752303423488 k h c/\i=(k:Int):=hy;have e1:=H.2.1 k (zQ _);have hc:=H.2.2.2;have hfk:=hle k hk;refine Ok.t (wg (show (k:Int) < 16 by omega)) (UN hk (UN hk (Ok.re (Ok.d ⟨?_,Y0 hk (by decide)⟩))));obtain⟨c1,c2,c3⟩:=car (c:=c) (x:=h k) (by rw[e1];omega) (by rw[e1];omega);show L8 f 0 576460752303423488 (k+1) (U6 h (0+(k:Int).toNat) (Int.tmod (Q0 (c+h k)) 65536)) (Q0 (Int.tdiv (Q0 (c+h k)) 65536));rw[c2,c3,e1,zW,we];exact En H hfk (by decide)
    ·obtain⟨h,c,i⟩:=y;obtain⟨H,rfl⟩:L8 f 0 576460752303423488 16 h c/\i=((16:Nat):Int):=hy;exact Ok.f rfl (Ok.d H)
   ·obtain⟨k1,k2,k3,k4⟩:=pM h1 hq;obtain⟨h,c⟩:=q;have hc:=hq.2.2.2;refine Ok.o rfl (Ok.r rfl (x:=h 0) rfl (Ok.o rfl (Ok.r rfl (x:=h 0) rfl (Ok.re (Ok.d ⟨?_,Y0 hr (by decide)⟩)))));show RS (r+1) (U6 h 0 (Q0 (h 0+Q0 ((38:Int) * c))))/\md (vF (U6 h 0 (Q0 (h 0+Q0 ((38:Int) * c)))) 16)=md (vF e 16);change 0<=c/\c<=576460752303423488 at hc;change h 0+38 * c < 9223372036854775808 at k3;change 0<=h 0+38 * c at k4;have hh:0<=h 0:=(hq.1 0 (by decide)).1;rw[Z2 (n:=38 * c) (by omega) (by omega),Z2 (n:=h 0+38 * c) (by omega) (by omega)];exact⟨k1,k2.trans h2⟩
  ·obtain⟨f,i⟩:=y;obtain⟨⟨h1,h2⟩,rfl⟩:(RS 3 f/\md (vF f 16)=md (vF e 16))/\i=((3:Nat):Int):=hy;exact Ok.f rfl (Ok.d ⟨h1,h2⟩)
theorem yO(f g:Nat->Int):∀n,vF (λi=>f i - g i) n=vF f n - vF g n
 | 0=>rfl
 | n+1=>by rw[E5,E5,E5,yO f g n,Int.sub_mul];omega
theorem LS:∀n,vF (λ_=>0) n=0
 | 0=>rfl
 | n+1=>by rw[E5,LS n,Int.zero_mul];rfl
theorem Ii{l:List Int}{j:Nat}{x:Int}(h:j < l.length):lg (l.set j x)=U6 (lg l) j x:=by
 funext i;unfold lg U6;grind
theorem mR(n i:Nat):lg (List.replicate n 0) i=0:=by
 grind [lg]
theorem NP(e:List Int)(h:e.length=16)(hl:∀i,i < 16->0<=lg e i/\lg e i<=70368744177664):Qy (TL (e.take 16)) (λr=>H6 r/\nF r=md (vF (lg e) 16)):=by
 grind [List.take_of_length_le,kL,Gq]
theorem NF(a b:Nat->Int)(ha:H6 a)(hb:H6 b):Qy (Sk a b) (λr=>H6 r/\nF r=(nF a+nF b) % nP):=by
 unfold Sk;refine Qy.fn ?_;unfold Qmg;refine Ok.o rfl (Ok.o rfl (Ok.o rfl (Ok.o rfl (Ok.b (R:=λe=>e.length=16/\∀i,i < 16->lg e i=a i+b i) ?_ λe he=>?_))))
 ·refine Ok.s 16 (by decide) (λk y=>(y.1.length=16/\∀i,i < k->lg y.1 i=a i+b i)/\y.2=(k:Int)) (by grind) (λk y hy hk=>?_) λy hy=>?_
  ·obtain⟨l,i⟩:=y;obtain⟨⟨h1,h2⟩,rfl⟩:(l.length=16/\∀i,i < k->lg l i=a i+b i)/\i=(k:Int):=hy;have hak:=ha k hk;have hbk:=hb k hk;refine Ok.t (by grind) (UN hk (UN hk (Ok.k (by simp;omega) (Ok.r rfl (x:=lg l k) (by rw[zW,we];grind [Kw]) (Ok.re (Ok.d ⟨⟨?_,λj hj=>?_⟩,Y0 hk (by decide)⟩))))))
   ·grind
   ·show lg (l.set (0+(k:Int).toNat) (Q0 (a k+b k))) j=_;rw[zW,we,Ii (by omega),Z2 (by omega) (by omega)];grind [X6,D7]
  ·obtain⟨l,i⟩:=y;obtain⟨h1,rfl⟩:(l.length=16/\∀i,i < 16->lg l i=a i+b i)/\i=((16:Nat):Int):=hy;exact Ok.f rfl (Ok.d h1)
 ·refine Ok.v (NP e he.1 λi hi=>?_) λr hr=>Ok.d ⟨hr.1,?_⟩
  ·have:=ha i hi;have:=hb i hi;grind
  ·have ev:vF (lg e) 16=vF a 16+vF b 16:=by rw[<-LB];exact ZR he.2
   rw[hr.2,ev,mG];rfl
def dP(i:Nat):Int:=if i=0 then 130996 else 131070
theorem Qjs:vF dP 16=57896044618658097711785492504343953926634992332820282019728792003956564819949 * 4:=by decide +kernel
theorem NN(a b:Nat->Int)(ha:H6 a)(hb:H6 b):Qy (Sw a b) (λr=>H6 r/\nF r=iX (nF a) (nF b)):=by
 unfold Sw;refine Qy.fn ?_;unfold Qmf;refine Ok.o rfl (Ok.o rfl (Ok.o rfl (Ok.o rfl (Ok.b (R:=λe=>e.length=16/\∀i,i < 16->lg e i=a i - b i+131070) ?_ λe he=>?_))))
 ·refine Ok.s 16 (by decide) (λk y=>(y.1.length=16/\∀i,i < k->lg y.1 i=a i - b i+131070)/\y.2=(k:Int)) (by grind) (λk y hy hk=>?_) λy hy=>?_
  ·obtain⟨l,i⟩:=y;obtain⟨⟨h1,h2⟩,rfl⟩:(l.length=16/\∀i,i < k->lg l i=a i - b i+131070)/\i=(k:Int):=hy;have hak:=ha k hk;have hbk:=hb k hk;refine Ok.t (by grind) (UN hk (UN hk (Ok.k (by simp;omega) (Ok.r rfl (x:=lg l k) (by rw[zW,we];grind [Kw]) (Ok.re (Ok.d ⟨⟨?_,λj hj=>?_⟩,Y0 hk (by decide)⟩))))))
   ·grind
   ·show lg (l.set (0+(k:Int).toNat) (Q0 (Q0 (a k - b k)+131070))) j=_;rw[zW,we,Ii (by omega),Z2 (n:=a k - b k) (by omega) (by omega),Z2 (by omega) (by omega)];grind [X6,D7]
  ·obtain⟨l,i⟩:=y;obtain⟨h1,rfl⟩:(l.length=16/\∀i,i < 16->lg l i=a i - b i+131070)/\i=((16:Nat):Int):=hy;exact Ok.f rfl (Ok.d h1)
 ·obtain⟨h1,h2⟩:=he;have hx:e[0]?=some (lg e 0):=Kw (by omega);have h20:=h2 0 (by decide);have ha0:=ha 0 (by decide);have hb0:=hb 0 (by decide);have hs:∀i,i < 16->lg (e.set 0 (Q0 (lg e 0 - 74))) i=a i+(dP i - b i):=λi hi=>by
   rw[Ii (by omega),Z2 (by omega) (by omega)];unfold dP;by_cases ei:i=0
   ·subst ei;rw[X6,if_pos rfl];omega
   ·rw[D7 ei,if_neg ei,h2 i hi];omega
  refine Ok.r rfl hx (Ok.r rfl hx (Ok.re (Ok.v (NP _ (by grind) λi hi=>?_) λr hr=>Ok.d ⟨hr.1,?_⟩)))
  ·have:=ha i hi;have:=hb i hi;grind [dP]
  ·have ev:vF (lg (e.set 0 (Q0 (lg e 0 - 74)))) 16=vF a 16 - vF b 16+57896044618658097711785492504343953926634992332820282019728792003956564819949 * 4:=by
    have e1:vF (lg (e.set 0 (Q0 (lg e 0 - 74)))) 16=vF a 16+vF (λi=>dP i - b i) 16:=by rw[<-LB];exact ZR hs
    rw[e1,yO,Qjs];omega
   rw[hr.2,ev,Wi,mI];rfl
theorem Uo(a b:Nat->Int)(ha:H6 a)(hb:H6 b):Qy (Ma a b) (λr=>H6 r/\nF r=nF a * nF b % nP):=by
 unfold Ma;refine Qy.fn ?_;unfold Qml;let Inv:Nat->Nat->List Int->Prop:=λi k l=>(l.length=31/\∀j,0<=lg l j/\lg l j<=((16 * i+k:Nat):Int) * 4294967296)/\vF (lg l) 31=vF a i * vF b 16+a i * 65536 ^ i * vF b k;refine Ok.o rfl (Ok.o rfl (Ok.o rfl (Ok.o rfl (Ok.b (R:=λe=>Inv 16 0 e) ?_ λe he=>?_))))
 ·refine Ok.s 16 (by decide) (λi y=>Inv i 0 y.1/\y.2=(i:Int)) ⟨⟨⟨rfl,(by grind [mR])⟩,?_⟩,rfl⟩ (λi y hy hi=>?_) λy hy=>?_
  ·simp_all [ZR,mR,LS,Int.zero_mul,Int.mul_zero,vF,lg,List.replicate,trans]
  ·obtain⟨l0,i'⟩:=y;obtain⟨h0,rfl⟩:Inv i 0 l0/\i'=(i:Int):=hy;refine Ok.t (by grind) (Ok.b (R:=λe=>Inv i 16 e) ?_ λe he=>?_)
   ·refine Ok.s 16 (by decide) (λk y=>Inv i k y.1/\y.2=(k:Int)) ⟨h0,rfl⟩ (λk y hy hk=>?_) λy hy=>?_
    ·obtain⟨l,k'⟩:=y;obtain⟨⟨⟨h1,h2⟩,h3⟩,rfl⟩:Inv i k l/\k'=(k:Int):=hy;have eik:Q0 ((i:Int)+(k:Int))=((i+k:Nat):Int):=by grind [Z2]
     have hai:=ha i hi;have hbk:=hb k hk;have hm:0<=a i * b k/\a i * b k<=65535 * 65535:=⟨Int.mul_nonneg hai.1 hbk.1,Int.mul_le_mul (by omega) (by omega) hbk.1 (by decide)⟩
     have hlk:=h2 (i+k);have hx:l[0+(((i+k:Nat):Int)).toNat]?=some (lg l (i+k)):=by rw[zW,we];exact Kw (by omega)
     refine Ok.t (by grind) ?_;simp only[eik];refine Ok.k (by simp;omega) (Ok.r rfl hx (UN hi (UN hk (Ok.k (by simp;omega) (Ok.r rfl hx (Ok.re (Ok.d ⟨?_,Y0 hk (by decide)⟩)))))));have hb16:((16 * i+k:Nat):Int)<=256:=by omega
     have ew:Q0 (lg l (i+k)+Q0 (a i * b k))=lg l (i+k)+a i * b k:=by grind [Z2]
     show Inv i (k+1) (l.set (0+(((i+k:Nat):Int)).toNat) (Q0 (lg l (i+k)+Q0 (a i * b k))));rw[ew,zW,we];refine⟨⟨by grind,λj=>?_⟩,?_⟩
     ·rw[Ii (by omega)];grind [X6,D7]
     ·rw[Ii (by omega),KT _ _ (by omega),h3,show vF b (k+1)=vF b k+b k * 65536 ^ k from rfl,Int.pow_add];grind
    ·obtain⟨l,k'⟩:=y;obtain⟨h1,rfl⟩:Inv i 16 l/\k'=((16:Nat):Int):=hy;exact Ok.f rfl (Ok.d h1)
   ·obtain⟨⟨h1,h2⟩,h3⟩:=he;refine Ok.d ⟨⟨⟨h1,λj=>?_⟩,?_⟩,Y0 hi (by decide)⟩
    ·grind
    ·show vF (lg e) 31=vF a (i+1) * vF b 16+a (i+1) * 65536 ^ (i+1) * 0;rw[h3,show vF a (i+1)=vF a i+a i * 65536 ^ i from rfl,Int.mul_zero,Int.add_zero,Int.add_mul]
  ·obtain⟨l,i'⟩:=y;obtain⟨h0,rfl⟩:Inv 16 0 l/\i'=((16:Nat):Int):=hy;exact Ok.f rfl (Ok.d h0)
 ·obtain⟨⟨h1,h2⟩,h3⟩:=he;refine Ok.v (R:=λr=>H6 r/\nF r=md (vF (lg e) 31)) ?_ λr hr=>Ok.d ⟨hr.1,?_⟩
  ·grind [List.take_of_length_le,kL]
  ·rw[hr.2,h3];show md (vF a 16 * vF b 16+a 16 * 65536 ^ 16 * 0)=_;rw[Int.mul_zero,Int.add_zero,mL];rfl
theorem AE(n:Int)(h:0<=n/\n < 4294967296):Qy (Se n) (λr=>H6 r/\vF r 16=n):=by
 unfold Se;refine Qy.fn ?_;unfold Qmn;have e1:Int.tmod n 65536=n % 65536:=(by grind);have e2:Q0 (Int.tdiv n 65536)=n / 65536:=by grind [Int.tdiv_eq_ediv_of_nonneg,Z2]
 refine Ok.o rfl (Ok.o rfl (Ok.o rfl (Ok.o rfl (Ok.r rfl (x:=0) rfl (Ok.re (Ok.o rfl (Ok.o rfl (Ok.d ?_))))))));show H6 (U6 (U6 (λ_=>0) 0 (Int.tmod n 65536)) 1 (Q0 (Int.tdiv n 65536)))/\vF (U6 (U6 (λ_=>0) 0 (Int.tmod n 65536)) 1 (Q0 (Int.tdiv n 65536))) 16=n;rw[e1,e2];refine⟨λi hi=>?_,?_⟩
 ·grind [X6,D7]
 ·rw[KT _ _ (by decide),KT _ _ (by decide),LS];show 0+(n % 65536 - 0) * 1+(n / 65536 - 0) * 65536=n;omega
theorem Qdv:∀i:Fin 255,(nP - 2) / 2 ^ i.val % 2=if i.val=2\/i.val=4 then 0 else 1:=by decide +kernel
theorem Qz3(a:Nat->Int)(ha:H6 a):Qy (Qq1 a) (λr=>H6 r/\nF r=Gu (nF a)):=by
 unfold Qq1;refine Qy.fn ?_;unfold Qmi;refine Ok.o rfl (Ok.o rfl (Ok.c (AE 1 ⟨by decide,by decide⟩) λone h1=>Ok.o rfl (Ok.o rfl (Ok.b (R:=λe=>H6 e/\nF e=Gu (nF a)) ?_ λe he=>Ok.o rfl (Ok.o rfl (Ok.d he))))));refine Ok.s 255 (by decide) (λk y=>(H6 y.1/\∃n,n=(nP - 2) / 2 ^ (255 - k)/\nF y.1=nF a ^ n % nP)/\y.2=254 - (k:Int)) ⟨⟨h1.1,0,by decide +kernel,?_⟩,rfl⟩ (λk y hy hk=>?_) λy hy=>?_
 ·show md (vF one 16)=_;rw[h1.2,Nat.pow_zero];decide +kernel
 ·obtain⟨x,i⟩:=y;obtain⟨⟨hx,n,hn,h2⟩,rfl⟩:(H6 x/\∃n,n=(nP - 2) / 2 ^ (255 - k)/\nF x=nF a ^ n % nP)/\i=254 - (k:Int):=hy;have hd:(nP - 2) / 2 ^ (255 - (k+1))=2 * n+(nP - 2) / 2 ^ (254 - k) % 2:=by
   rw[hn,show 255 - k=(254 - k)+1 by omega,Nat.pow_succ,<-Nat.div_div_eq_div_mul,show 255 - (k+1)=254 - k by omega,Nat.add_comm,Nat.mod_add_div]
  have hb:=Qdv ⟨254 - k,by omega⟩;change (nP - 2) / 2 ^ (254 - k) % 2=if 254 - k=2\/254 - k=4 then 0 else 1 at hb;have ew:Q0 (254 - (k:Int) - 1)=254 - ((k+1:Nat):Int):=by grind [Z2]
  refine Ok.t (by grind) (Ok.o rfl (Ok.o rfl (Ok.c (Uo x x hx hx) λq hq=>Ok.o rfl ?_)));have hq2:nF q=nF a ^ (2 * n) % nP:=by rw[hq.2,h2,lR]
  refine Ok.n (R:=λc=>c=!decide (254 - k=2\/254 - k=4)) (Ok.e (λhc=>Ok.d ?_) λhc=>Ok.d ?_) λc hc=>?_
  ·grind
  ·grind
  ·refine Ok.e (λh=>?_) λh=>Ok.d ⟨⟨hq.1,2 * n,?_,hq2⟩,ew⟩
   ·rw[hc] at h;have h:¬(254 - k=2\/254 - k=4):=by simpa using h
    rw[if_neg h] at hb;refine Ok.o rfl (Ok.o rfl (Ok.c (Uo q a hq.1 ha) λr hr=>Ok.o rfl (Ok.d ⟨⟨hr.1,2 * n+1,?_,?_⟩,ew⟩)))
    ·rw[hd,hb]
    grind [NX]
   grind
 ·obtain⟨x,i⟩:=y;obtain⟨⟨hx,n,hn,h2⟩,rfl⟩:(H6 x/\∃n,n=(nP - 2) / 2 ^ (255 - 255)/\nF x=nF a ^ n % nP)/\i=254 - ((255:Nat):Int):=hy;refine Ok.f rfl (Ok.d ⟨hx,?_⟩);show nF x=_;unfold Gu;rw[Lz _ _ _ _ (by decide +kernel),Nat.one_mul,h2,hn,Nat.sub_self,Nat.pow_zero,Nat.div_one]
theorem CA(f:Nat->Nat):∀n,((Oz f (2 * n):Nat):Int)=vF (λi=>((f (2 * i):Nat):Int)+256 * ((f (2 * i+1):Nat):Int)) n
 | 0=>rfl
 | n+1=>by
  have e:Oz f (2 * (n+1))=Oz f (2 * n)+f (2 * n) * 256 ^ (2 * n)+f (2 * n+1) * 256 ^ (2 * n+1):=rfl;have p1:(256:Nat) ^ (2 * n)=65536 ^ n:=by rw[Nat.pow_mul]
  rw[e,E5,<-CA f n,Nat.pow_succ,p1];grind
theorem gY(s:ze)(hs:s.size=32):Qy (Qq3 s) (λr=>H6 r/\vF r 16=((Yr s % 2 ^ 255:Nat):Int)):=by
 unfold Qq3;refine Qy.fn ?_;unfold Qmr;let g:Nat->Int:=λi=>((on s (2 * i):Nat):Int)+256 * ((on s (2 * i+1):Nat):Int);have hg:∀i,0<=g i/\g i < 65536:=(by grind [Ux,on]);refine Ok.o rfl (Ok.o rfl (Ok.b (R:=λe=>∀i,i < 16->e i=g i) ?_ λe he=>?_))
 ·refine Ok.s 16 (by decide) (λk y=>(∀i,i < k->y.1 i=g i)/\y.2=(k:Int)) (by grind) (λk y hy hk=>?_) λy hy=>?_
  ·obtain⟨f,i⟩:=y;obtain⟨h1,rfl⟩:(∀i,i < k->f i=g i)/\i=(k:Int):=hy;have e2:Q0 ((2:Int) * (k:Int))=((2 * k:Nat):Int):=by grind [Z2]
   have e3:Q0 (((2 * k:Nat):Int)+1)=((2 * k+1:Nat):Int):=by grind [Z2]
   refine Ok.t (by grind) ?_;simp only[e2,e3,WW];refine Ok.k (by grind) (Ok.k (by grind) (UN hk (Ok.re (Ok.d ⟨λj hj=>?_,Y0 hk (by decide)⟩))));show U6 f (0+(k:Int).toNat) (Q0 (Q0 ((on s (2 * k):Nat):Int)+Q0 ((256:Int) * Q0 ((on s (2 * k+1):Nat):Int)))) j=_;have:=Ux s (2 * k);have:=Ux s (2 * k+1);rw[zW,we,Z2 (n:=((on s (2 * k):Nat):Int)) (by omega) (by omega),Z2 (n:=((on s (2 * k+1):Nat):Int)) (by omega) (by omega),Z2 (n:=256 * ((on s (2 * k+1):Nat):Int)) (by omega) (by omega),Z2 (by omega) (by omega)];by_cases e:j=k
   ·subst e;rw[X6]
   grind [D7]
  ·obtain⟨f,i⟩:=y;obtain⟨h1,rfl⟩:(∀i,i < 16->f i=g i)/\i=((16:Nat):Int):=hy;exact Ok.f rfl (Ok.d h1)
 ·have hl:H6 e:=λi hi=>by grind
  have h15:=hl 15 (by decide);have ev:vF e 16=((Yr s:Nat):Int):=(ZR he).trans (CA (on s) 16).symm;refine Ok.o rfl (Ok.r rfl (x:=e 15) rfl (Ok.o rfl (Ok.r rfl (x:=e 15) rfl (Ok.re (Ok.o rfl (Ok.o rfl (Ok.d ?_)))))));have em:Int.tmod (e 15) 32768=e 15 % 32768:=(by grind)
  show H6 (U6 e 15 (Int.tmod (e 15) 32768))/\vF (U6 e 15 (Int.tmod (e 15) 32768)) 16=_;rw[em];have hl2:H6 (U6 e 15 (e 15 % 32768)):=λi hi=>by
   grind [X6,D7]
  refine⟨hl2,?_⟩;have e15:vF e 16=vF e 15+e 15 * 65536 ^ 15:=rfl;have hlt:vF e 15 < 65536 ^ 15:=OL λi hi=>hl i (by omega);have h0:0<=vF e 15:=V9 (by grind);grind [KT,Int.natCast_emod,Yr]
def pd(i:Nat):Int:=if i=15 then 32767 else if i=0 then 65517 else 65535
theorem uB:vF pd 16=57896044618658097711785492504343953926634992332820282019728792003956564819949:=by decide +kernel
theorem uC(i:Nat):0<=pd i/\pd i < 65536:=by grind [pd]
theorem Md{f g:Nat->Int}(j:Nat):∀{n:Nat},(∀i,j<=i->i < j+n->f i=g i)->vF f (j+n) - vF g (j+n)=vF f j - vF g j
 | 0,_=>rfl
 | n+1,h=>by
  show vF f (j+n)+f (j+n) * 65536 ^ (j+n) - (vF g (j+n)+g (j+n) * 65536 ^ (j+n))=_;have ih:=Md (f:=f) (g:=g) j (n:=n) (by grind);grind
theorem lex_lt{f g:Nat->Int}{i:Nat}(hf:∀j,j < i->0<=f j/\f j < 65536)(hg:∀j,j < i->0<=g j/\g j < 65536)(h:f i < g i):vF f (i+1) < vF g (i+1):=by
 rw[E5,E5];have h1:=OL hf;have h2:=V9 λj hj=>(hg j hj).1;have h3:=Int.mul_le_mul_of_nonneg_right (show f i+1<=g i by omega) (Int.le_of_lt (Mo i));grind
theorem gU(f:Nat->Int)(hf:H6 f):Qy (vZ f) (λr=>r=decide (vF f 16 < 57896044618658097711785492504343953926634992332820282019728792003956564819949)):=by
 unfold vZ;refine Qy.fn ?_;unfold Qkr;refine Ok.o rfl (Ok.p (R:=λe=>match e with|.inl b=>b=decide (vF f 16 < 57896044618658097711785492504343953926634992332820282019728792003956564819949)|.inr _=>∀i,1<=i->i < 16->f i=pd i) ?_ (λb hb=>Ok.d hb) λ_ he=>?_)
 ·refine Ok.s 15 (by decide) (λk y=>(∀i,16 - k<=i->i < 16->f i=pd i)/\y=15 - (k:Int)) (by grind) (λk y hy hk=>?_) λy hy=>?_
  ·obtain⟨h1,rfl⟩:=hy;have e15:(15 - (k:Int))=((15 - k:Nat):Int):=by omega
   have hi:15 - k < 16:=by omega
   have ew:Q0 (((15 - k:Nat):Int) - 1)=15 - ((k+1:Nat):Int):=by grind [Z2]
   rw[e15];have hsame:vF f 16 - vF pd 16=vF f (15 - k+1) - vF pd (15 - k+1):=by
    have:=Md (f:=f) (g:=pd) (15 - k+1) (n:=k) (by grind);grind
   refine Ok.t (by grind) (Ok.b (R:=λe=>e=pd (15 - k)) (Ok.e (λhc=>Ok.d ?_) λhc=>Ok.d ?_) λe he=>?_)
   ·have hc:((15 - k:Nat):Int)=15:=by simpa using hc
    unfold pd;grind
   ·have hc:¬((15 - k:Nat):Int)=15:=by simpa using hc
    unfold pd;grind
   ·subst he;refine UN hi (Ok.e (λhc=>UN hi (Ok.d ?_)) λhc=>Ok.d ⟨λi h2 h3=>?_,ew⟩)
    ·have hc:f (15 - k)≠pd (15 - k):=by simpa using hc
     show decide (f (15 - k) < pd (15 - k))=decide (vF f 16 < 57896044618658097711785492504343953926634992332820282019728792003956564819949);rw[<-uB];rcases Int.lt_or_lt_of_ne hc with h|h
     ·have:=lex_lt (λj hj=>hf j (by omega)) (λj _=>uC j) h;grind
     ·have:=lex_lt (λj _=>uC j) (λj hj=>hf j (by omega)) h;grind
    grind
  ·obtain⟨h1,rfl⟩:=hy;exact Ok.f rfl (by grind [Ok.d])
 ·refine Ok.o rfl (Ok.r rfl (x:=f 0) rfl (Ok.d ?_));have hs:vF f 16 - vF pd 16=vF f 1 - vF pd 1:=Md (f:=f) (g:=pd) 1 (n:=15) (by grind);have e1:vF f 1=f 0:=by show 0+f 0 * 65536 ^ 0=f 0;omega
  have e2:vF pd 1=65517:=by decide
  rw[<-uB];grind
theorem w15:(65536:Int) ^ 15=1766847064778384329583297500742918515827483896875618958121606201292619776:=by decide
theorem cY{f h:Nat->Int}{c:Int}(hf:H6 f)(hp:57896044618658097711785492504343953926634992332820282019728792003956564819949<=vF f 16)(H:L8 f 19 65536 16 h c) :
  H6 (U6 h 15 (if 0 < c then h 15 - 32768+65536 else h 15 - 32768))/\vF (U6 h 15 (if 0 < c then h 15 - 32768+65536 else h 15 - 32768)) 16=vF f 16 - 57896044618658097711785492504343953926634992332820282019728792003956564819949/\0<=h 15/\h 15 < 65536:=by
 obtain⟨h1,h2,h3,h4,h5⟩:=H;have hl:H6 h:=h1;have hv:=US hl;have hfv:=US hf;have h15:=h1 15 (by decide);have e15:vF h 16=vF h 15+h 15 * 65536 ^ 15:=rfl;have hlt:vF h 15 < 65536 ^ 15:=OL λi hi=>hl i (by omega);have h0:0<=vF h 15:=V9 (by grind);rw[w15] at e15 hlt;rw[w16] at h3;refine⟨λi hi=>?_,?_,h15.1,h15.2⟩
 ·grind [X6,D7]
 grind [KT,w15]
theorem mO{x:Int}(h0:0<=x)(h:x < 57896044618658097711785492504343953926634992332820282019728792003956564819949):((md x:Nat):Int)=x:=by rw[Jt];omega
theorem Qjg{f:Nat->Int}(hf:H6 f){N:Nat}(hN:(N:Int)=vF f 16){i:Nat}(hi:i < 16):f i=((N / 65536 ^ i % 65536:Nat):Int):=by
 have e:=Uq f i (16 - i);rw[show i+(16 - i)=16 by omega] at e;have h1:vF f i < 65536 ^ i:=OL λj hj=>hf j (by omega);have h0:0<=vF f i:=V9 λj hj=>(hf j (by omega)).1;have e2:=Uq (λj=>f (i+j)) 1 (16 - i - 1);rw[show 1+(16 - i - 1)=16 - i by omega] at e2;have e3:vF (λj=>f (i+j)) 1=f i:=by show 0+f (i+0) * 65536 ^ 0=f i;grind
 rw[e3] at e2;have hfi:=hf i hi;have d1:(N:Int) / 65536 ^ i=vF (λj=>f (i+j)) (16 - i):=by
  simp_all [Int.add_mul_ediv_left,Int.ne_of_gt,Mo,Int.ediv_eq_zero_of_lt,Int.zero_add]
 grind
theorem pU(g:Nat->Int)(k:Nat):(List.range (2 * k)).map g++[g (2 * k),g (2 * k+1)]=(List.range (2 * (k+1))).map g:=by
 grind [List.range_succ,List.append_assoc]
theorem Qz4(f:Nat->Int)(hf:H6 f):Qy (Qq2 f) (λr=>r=OZ (nF f)):=by
 unfold Qq2;refine Qy.fn ?_;unfold Qmo;refine Ok.o rfl (Ok.b (R:=λe=>H6 e/\vF e 16 < 57896044618658097711785492504343953926634992332820282019728792003956564819949/\nF e=nF f) ?_ λe he=>?_)
 ·refine Ok.lp (λy=>H6 y/\nF y=nF f) (λy=>(vF y 16 / 57896044618658097711785492504343953926634992332820282019728792003956564819949).toNat) ⟨hf,rfl⟩ (by have:=US hf;unfold Yv;omega) λy hy=>?_;obtain⟨h1,h2⟩:=hy;have hv:=US h1;refine Ok.o rfl (Ok.c (gU y h1) λr hr=>Ok.e (λhc=>?_) λhc=>Ok.d ?_)
  ·have hp:57896044618658097711785492504343953926634992332820282019728792003956564819949<=vF y 16:=by
    grind
   refine Ok.b (R:=λq=>L8 y 19 65536 16 q.1 q.2) ?_ λq hq=>?_
   ·refine Ok.s 16 (by decide) (λk z=>L8 y 19 65536 k z.1 z.2.1/\z.2.2=(k:Int)) ⟨(by grind [RO]),rfl⟩ (λk z hz hk=>?_) λz hz=>?_
    ·obtain⟨h,c,i⟩:=z;obtain⟨H,rfl⟩:L8 y 19 65536 k h c/\i=(k:Int):=hz;have e1:=H.2.1 k (zQ _);have hc:=H.2.2.2;have hfk:=h1 k hk;refine Ok.t (by grind) (UN hk (UN hk (Ok.re (Ok.d ⟨?_,Y0 hk (by decide)⟩))));obtain⟨c1,c2,c3⟩:=car (c:=c) (x:=h k) (by rw[e1];omega) (by rw[e1];omega);show L8 y 19 65536 (k+1) (U6 h (0+(k:Int).toNat) (Int.tmod (Q0 (c+h k)) 65536)) (Q0 (Int.tdiv (Q0 (c+h k)) 65536));rw[c2,c3,e1,zW,we];grind [En]
    ·obtain⟨h,c,i⟩:=z;obtain⟨H,rfl⟩:L8 y 19 65536 16 h c/\i=((16:Nat):Int):=hz;exact Ok.f rfl (Ok.d H)
   ·obtain⟨h,c⟩:=q;obtain⟨t1,t2,t3,t4⟩:=cY h1 hp hq;dsimp only at t1 t2 t3 t4;have fin:∀v,v=(if 0 < c then h 15 - 32768+65536 else h 15 - 32768)->Rnd (λy=>H6 y/\nF y=nF f) (λy=>(vF y 16 / 57896044618658097711785492504343953926634992332820282019728792003956564819949).toNat) (vF y 16 / 57896044618658097711785492504343953926634992332820282019728792003956564819949).toNat (λe=>H6 e/\vF e 16 < 57896044618658097711785492504343953926634992332820282019728792003956564819949/\nF e=nF f) (.inl (U6 h 15 v)):=λv hv2=>by
     subst hv2;refine⟨⟨t1,?_⟩,?_⟩
     ·show md (vF _ 16)=_;rw[t2,<-h2,show vF y 16 - 57896044618658097711785492504343953926634992332820282019728792003956564819949=vF y 16 - 57896044618658097711785492504343953926634992332820282019728792003956564819949 * 1 by omega,Ik];rfl
     grind
    have ea:Q0 (h 15 - 32768)=h 15 - 32768:=Z2 (by omega) (by omega);have upd2:∀a b:Int,U6 (U6 h 15 a) 15 b=U6 h 15 b:=λa b=>funext (by grind [X6,D7]);refine Ok.o rfl (Ok.r rfl (x:=h 15) rfl (Ok.o rfl (Ok.r rfl (x:=h 15) rfl (Ok.re (Ok.e (λhc=>?_) λhc=>Ok.d ?_)))))
    ·have hc:0 < c:=by simpa using hc
     have x15:(Y7 (U6 h 15 (Q0 (h 15 - 32768))))[15]?=some (h 15 - 32768):=by simp_all [MX,if_pos,X6]
     refine Ok.o rfl (Ok.r rfl x15 (Ok.o rfl (Ok.r rfl x15 (Ok.re (Ok.d ?_)))));have:=fin (h 15 - 32768+65536) (by rw[if_pos hc]);rw[upd2,Z2 (n:=h 15 - 32768+65536) (by omega) (by omega)];exact this
    grind
  ·have:decide (vF y 16 < 57896044618658097711785492504343953926634992332820282019728792003956564819949)=true:=by grind
   exact⟨h1,of_decide_eq_true this,h2⟩
 ·obtain⟨h1,h2,h3⟩:=he;have hM:((nF e:Nat):Int)=vF e 16:=mO (US h1).1 h2;rw[<-h3];have hlt:nF e < 2 ^ 255:=(by grind);generalize nF e=M at *;refine Ok.g (Ok.b (R:=λl=>l=I1 λj=>((M5 8 M 255 j:Nat):Int)) ?_ λl hl=>Ok.o rfl (Ok.d (by rw[hl];rfl)));refine Ok.s 16 (by decide) (λk y=>y.1=(List.range (2 * k)).map (λj=>((M5 8 M 255 j:Nat):Int))/\y.2=(k:Int)) ⟨rfl,rfl⟩ (λk y hy hk=>?_) λy hy=>?_
  ·obtain⟨l,i⟩:=y;obtain⟨hl,rfl⟩:l=(List.range (2 * k)).map (λj=>((M5 8 M 255 j:Nat):Int))/\i=(k:Int):=hy;have hlen:l.length=2 * k:=by rw[hl];simp
   have hd:=Qjg h1 hM hk;have hek:=h1 k hk;refine Ok.t (by grind) (UN hk (UN hk (Ok.app (by grind) (Ok.g (Ok.g (Ok.d ⟨?_,Y0 hk (by decide)⟩))))));have t1:Qk (Int.tmod (e k) 256)=e k % 256:=by
    rw[Int.tmod_eq_emod_of_nonneg hek.1];show IntKind.u8.wrap _=_;rw[IntKind.wrap_u8];omega
   have t2:Qk (Q0 (Int.tdiv (e k) 256))=e k / 256:=by
    rw[Int.tdiv_eq_ediv_of_nonneg hek.1,Z2 (by omega) (by omega)];show IntKind.u8.wrap _=_;rw[IntKind.wrap_u8];omega
   show l++[Qk (Int.tmod (e k) 256),Qk (Q0 (Int.tdiv (e k) 256))]=_;rw[t1,t2,hl,<-pU];have p8:∀j,(2:Nat) ^ (8 * j)=256 ^ j:=λj=>by rw[Nat.pow_mul]
   have q0:((M5 8 M 255 (2 * k):Nat):Int)=e k % 256:=by
    unfold M5;rw[Nat.mod_eq_of_lt hlt,p8,show (256:Nat) ^ (2 * k)=65536 ^ k by rw[Nat.pow_mul],hd];omega
   have q1:((M5 8 M 255 (2 * k+1):Nat):Int)=e k / 256:=by
    unfold M5;rw[Nat.mod_eq_of_lt hlt,p8,Nat.pow_succ,show (256:Nat) ^ (2 * k)=65536 ^ k by rw[Nat.pow_mul],<-Nat.div_div_eq_div_mul,hd];omega
   rw[q0,q1]
  ·obtain⟨l,i⟩:=y;obtain⟨hl,rfl⟩:l=(List.range (2 * 16)).map (λj=>((M5 8 M 255 j:Nat):Int))/\i=((16:Nat):Int):=hy;exact Ok.f rfl (Ok.d hl)
attribute [local irreducible] Ok
theorem T1{ρ:Type}{Q:ρ->Prop}{a:Nat}{o:Operand}{d b:Nat}{f:Nat->Int}{K:Unit->TT ρ}(h:Ok (K ()) Q):Ok (.Qq a (Yl o d b f) K) Q:=Ok.o rfl h
theorem T0{ρ:Type}{Q:ρ->Prop}{a:Nat}{o v:Operand}{b:Nat}{f g:Nat->Int}{K:Unit->TT ρ}(h:Ok (K ()) Q):Ok (.Qq a (HX o v b f g) K) Q:=Ok.o rfl h
theorem T2{ρ:Type}{Q:ρ->Prop}{a d:Nat}{K:Unit->TT ρ}(h:Ok (K ()) Q):Ok (.Qq a (Xt d) K) Q:=Ok.o rfl h
theorem kW(s:ze)(hs:s.size=32):Qy (Qq4 s) (λr=>r=Db s):=by
 have hl:(Q2 s).length=32:=by rw[J4,hs]
 have hx:∀i,i < 32->(Q2 s)[i]?=some ((on s i:Nat):Int):=(by grind [GK,WW])
 have c0:Qk (Qk (Int.tdiv ((on s 0:Nat):Int) 8) * 8)=((on s 0 / 8 * 8:Nat):Int):=by
  have:=Ux s 0;have e:Int.tdiv ((on s 0:Nat):Int) 8=((on s 0 / 8:Nat):Int):=td _ 8;rw[e];show IntKind.u8.wrap (IntKind.u8.wrap _ * 8)=_;grind [IntKind.wrap_u8]
 have c1:Qk (Int.tmod ((on s 31:Nat):Int) 64+64)=((on s 31 % 64+64:Nat):Int):=by
  have e:Int.tmod ((on s 31:Nat):Int) 64=((on s 31 % 64:Nat):Int):=tm _ 64;rw[e];show IntKind.u8.wrap _=_;rw[IntKind.wrap_u8];omega
 have h31:((Q2 s).set 0 (Qk (Qk (Int.tdiv ((on s 0:Nat):Int) 8) * 8)))[31]?=some ((on s 31:Nat):Int):=by
  grind
 unfold Qq4;refine Qy.fn ?_;unfold Qmp;refine Ok.o rfl (Ok.k (by rw[hl];rfl) (Ok.r rfl (hx 0 (by decide)) (Ok.k (by rw[hl];rfl) (Ok.r rfl (hx 0 (by decide)) (Ok.re (Ok.g ?_))))));refine Ok.k (by grind) (Ok.r rfl h31 (Ok.k (by grind) (Ok.r rfl h31 (Ok.re (Ok.g (Ok.o rfl (Ok.d ?_)))))));rw[c0,c1];unfold Db;congr 1;refine List.ext_getElem? λi=>?_;rw[YR,List.getElem?_set,List.getElem?_set,List.length_set,hl];unfold qF;grind
theorem SU(k p:ze)(hk:k.size=32)(hp:p.size=32):Qy (s70 k p) (λr=>r=xS k p):=by
 unfold s70;refine Qy.fn ?_;unfold g70;refine Ok.c (kW k hk) λc hc=>Ok.c (gY p hp) λu hu=>?_;have hN:∀i,i < 255->on c (i / 8) / 2 ^ (i % 8) % 2=Yr (Db k) / 2 ^ i % 2:=λi hi=>by rw[hc];exact BU (on (Db k)) (Ux _) (n:=32) (k:=i) (by omega)
 have hcs:c.size=32:=by rw[hc];exact RD k
 have hx:xS k p=OZ (xN (Yr (Db k)) (Yr p % 2 ^ 255)):=by unfold xS;rfl
 rw[hx];clear hc hx;generalize Yr (Db k)=N at *;repeat first|refine T1 ?_|refine T0 ?_|refine T2 ?_
 refine Ok.c (AE 1 ⟨by decide,by decide⟩) λone h1=>Ok.c (AE 0 ⟨by decide,by decide⟩) λzer h0=>?_;repeat first|refine T1 ?_|refine T0 ?_|refine T2 ?_
 refine Ok.c (AE 1 ⟨by decide,by decide⟩) λon2 h1'=>?_;repeat first|refine T1 ?_|refine T0 ?_|refine T2 ?_
 have n1:∀x:Nat->Int,vF x 16=1->nF x=1:=λx h=>by unfold nF;rw[h];decide +kernel
 have n0:∀x:Nat->Int,vF x 16=0->nF x=0:=λx h=>by unfold nF;rw[h];decide +kernel
 have nc:∀x:Nat->Int,vF x 16=121665->nF x=121665:=λx h=>by unfold nF;rw[h];decide +kernel
 have nu:nF u=Yr p % 2 ^ 255 % nP:=by unfold nF;rw[hu.2];exact Rw rfl
 obtain⟨L,hL⟩:∃L,Jj 121665 (nF u) (Crv.bits N 255) 1 0 (nF u) 1=L:=⟨_,rfl⟩;refine Ok.b (R:=λe=>(H6 e.1/\H6 e.2)/\L=(nF e.1,nF e.2)) ?_ λe he=>?_
 ·refine Ok.s 255 (by decide) (λk y=>((H6 y.1/\H6 y.2.1/\H6 y.2.2.1/\H6 y.2.2.2.1)/\Jj 121665 (nF u) (Crv.bits N (255 - k)) (nF y.1) (nF y.2.1) (nF y.2.2.1) (nF y.2.2.2.1)=L)/\y.q=254 - (k:Int))
   (by grind) (λk y hy hk=>?_) λy hy=>?_
  ·obtain⟨a,b,c2,d,i⟩:=y;obtain⟨⟨⟨la,lb,lc,ld⟩,hlad⟩,rfl⟩:((H6 a/\H6 b/\H6 c2/\H6 d)/\Jj 121665 (nF u) (Crv.bits N (255 - k)) (nF a) (nF b) (nF c2) (nF d)=L)/\i=254 - (k:Int):=hy;obtain⟨j,hj⟩:∃j,j=254 - k:=⟨_,rfl⟩;have ej:(254 - (k:Int))=(j:Int):=by omega
   have ew:Q0 ((j:Int) - 1)=254 - ((k+1:Nat):Int):=by grind [Z2]
   rw[show 255 - k=j+1 by omega,LZ] at hlad;have hb:=hN j (by omega);have e1:U1 .u8 (Z5 .u8 (QQ c (Q0 (Int.tdiv (j:Int) 8))) (Z4 (Int.tmod (j:Int) 8))) 1=((N / 2 ^ j % 2:Nat):Int):=by
    rw[td8 j (by omega),tm8,U2 (by omega) (by omega),WW,GH ⟨on c (j / 8),Ux _ _⟩ ⟨j % 8,Nat.mod_lt _ (by decide)⟩,<-hb]
   have e2:=td8 j (by omega);have hb2:=RC N j;rw[ej];refine Ok.t (by grind) (Ok.k (by grind) (Ok.k (by grind [tm8,U2,decide,Z4,Int.tmod]) ?_));refine Ok.b (R:=λe=>(H6 e.1/\H6 e.2.1/\H6 e.2.2.1/\H6 e.2.2.2)/\e=if N / 2 ^ j % 2=1 then (c2,d,a,b) else (a,b,c2,d)) (Ok.e (λhc=>?_) λhc=>?_) λe he=>?_
   ·have hc:(U1 .u8 (Z5 .u8 (QQ c (Q0 (Int.tdiv (j:Int) 8))) (Z4 (Int.tmod (j:Int) 8))) 1==1)=true:=hc;rw[e1] at hc;repeat first|refine T1 ?_|refine T0 ?_|refine T2 ?_
    simp_all [Ok.d,if_pos,GU]
   ·have hc:(U1 .u8 (Z5 .u8 (QQ c (Q0 (Int.tdiv (j:Int) 8))) (Z4 (Int.tmod (j:Int) 8))) 1==1)=false:=hc;simp_all [Ok.d,if_neg,IP]
   ·obtain⟨x,z,x2,z2⟩:=e;obtain⟨⟨l1,l2,l3,l4⟩,hE⟩:=he;repeat first|refine T1 ?_|refine T0 ?_|refine T2 ?_
    refine Ok.c (NF x z l1 l2) λp2 hp2=>?_;repeat first|refine T1 ?_|refine T0 ?_|refine T2 ?_
    refine Ok.c (NN x z l1 l2) λm hm=>?_;repeat first|refine T1 ?_|refine T0 ?_|refine T2 ?_
    refine Ok.c (Uo p2 p2 hp2.1 hp2.1) λs hs=>?_;repeat first|refine T1 ?_|refine T0 ?_|refine T2 ?_
    refine Ok.c (Uo m m hm.1 hm.1) λt ht=>?_;repeat first|refine T1 ?_|refine T0 ?_|refine T2 ?_
    refine Ok.c (NN s t hs.1 ht.1) λg hg=>?_;repeat first|refine T1 ?_|refine T0 ?_|refine T2 ?_
    refine Ok.c (NN x2 z2 l3 l4) λf0 hf0=>?_;repeat first|refine T1 ?_|refine T0 ?_|refine T2 ?_
    refine Ok.c (Uo f0 p2 hf0.1 hp2.1) λf hf=>?_;repeat first|refine T1 ?_|refine T0 ?_|refine T2 ?_
    refine Ok.c (NF x2 z2 l3 l4) λg0 hg0=>?_;repeat first|refine T1 ?_|refine T0 ?_|refine T2 ?_
    refine Ok.c (Uo g0 m hg0.1 hm.1) λq hq=>?_;repeat first|refine T1 ?_|refine T0 ?_|refine T2 ?_
    refine Ok.c (Uo s t hs.1 ht.1) λv1 hv1=>?_;repeat first|refine T1 ?_|refine T0 ?_|refine T2 ?_
    refine Ok.c (AE 121665 ⟨by decide,by decide⟩) λcc hcc=>?_;repeat first|refine T1 ?_|refine T0 ?_|refine T2 ?_
    refine Ok.c (Uo cc g hcc.1 hg.1) λd1 hd1=>?_;repeat first|refine T1 ?_|refine T0 ?_|refine T2 ?_
    refine Ok.c (NF s d1 hs.1 hd1.1) λd2 hd2=>?_;repeat first|refine T1 ?_|refine T0 ?_|refine T2 ?_
    refine Ok.c (Uo g d2 hg.1 hd2.1) λv2 hv2=>?_;repeat first|refine T1 ?_|refine T0 ?_|refine T2 ?_
    refine Ok.c (NF f q hf.1 hq.1) λh3 hh3=>?_;repeat first|refine T1 ?_|refine T0 ?_|refine T2 ?_
    refine Ok.c (NF f q hf.1 hq.1) λh4 hh4=>?_;repeat first|refine T1 ?_|refine T0 ?_|refine T2 ?_
    refine Ok.c (Uo h3 h4 hh3.1 hh4.1) λv3 hv3=>?_;repeat first|refine T1 ?_|refine T0 ?_|refine T2 ?_
    refine Ok.c (NN f q hf.1 hq.1) λj1 hj1=>?_;repeat first|refine T1 ?_|refine T0 ?_|refine T2 ?_
    refine Ok.c (NN f q hf.1 hq.1) λj2 hj2=>?_;repeat first|refine T1 ?_|refine T0 ?_|refine T2 ?_
    refine Ok.c (Uo j1 j2 hj1.1 hj2.1) λj3 hj3=>?_;repeat first|refine T1 ?_|refine T0 ?_|refine T2 ?_
    refine Ok.c (Uo u j3 hu.1 hj3.1) λv4 hv4=>?_;repeat first|refine T1 ?_|refine T0 ?_|refine T2 ?_
    have D:∀K:Nat->Nat->Nat×Nat,RH 121665 (nF x) (nF z) K=K (nF v1) (nF v2):=λK=>by
     simp only[RH,force_eq];rw[hv1.2,hv2.2,hd2.2,hd1.2,hg.2,hs.2,ht.2,hp2.2,hm.2,nc cc hcc.2,wX 121665]
    have F:∀K:Nat->Nat->Nat×Nat,RU (nF u) (nF x) (nF z) (nF x2) (nF z2) K=K (nF v3) (nF v4):=λK=>by
     simp only[RU,force_eq];rw[hv3.2,hv4.2,hj3.2,hj1.2,hj2.2,hh3.2,hh4.2,hf.2,hq.2,hf0.2,hg0.2,hp2.2,hm.2]
    refine Ok.e (λhc=>?_) λhc=>?_
    ·have hc:(U1 .u8 (Z5 .u8 (QQ c (Q0 (Int.tdiv (j:Int) 8))) (Z4 (Int.tmod (j:Int) 8))) 1==1)=true:=hc;rw[e1] at hc;have h1:=GU hc;rw[if_pos h1] at hE;simp only[zT] at hE;obtain⟨rfl,rfl,rfl,rfl⟩:=hE;repeat first|refine T1 ?_|refine T0 ?_|refine T2 ?_
     refine Ok.d ⟨⟨⟨hv3.1,hv4.1,hv1.1,hv2.1⟩,?_⟩,ew⟩;rw[h1] at hlad;rw[show 255 - (k+1)=j by omega,<-hlad];show _=(bif true then _ else _);rw[cond_true,D,F]
    ·have hc:(U1 .u8 (Z5 .u8 (QQ c (Q0 (Int.tdiv (j:Int) 8))) (Z4 (Int.tmod (j:Int) 8))) 1==1)=false:=hc;rw[e1] at hc;have h1:=IP hb2 hc;rw[if_neg (by rw[h1];decide)] at hE;simp only[zT] at hE;obtain⟨rfl,rfl,rfl,rfl⟩:=hE;refine Ok.d ⟨⟨⟨hv1.1,hv2.1,hv3.1,hv4.1⟩,?_⟩,ew⟩;rw[h1] at hlad;rw[show 255 - (k+1)=j by omega,<-hlad];show _=(bif false then _ else _);rw[cond_false,D,F]
  ·obtain⟨a,b,c2,d,i⟩:=y;obtain⟨⟨⟨la,lb,lc,ld⟩,hlad⟩,rfl⟩:((H6 a/\H6 b/\H6 c2/\H6 d)/\Jj 121665 (nF u) (Crv.bits N (255 - 255)) (nF a) (nF b) (nF c2) (nF d)=L)/\i=254 - ((255:Nat):Int):=hy;refine Ok.f rfl (Ok.d ⟨⟨la,lb⟩,?_⟩);rw[Nat.sub_self,LQ,Ra] at hlad;exact hlad.symm
 ·obtain⟨a,b⟩:=e;obtain⟨⟨la,lb⟩,hl⟩:=he;repeat first|refine T1 ?_|refine T0 ?_|refine T2 ?_
  refine Ok.c (Qz3 b lb) λq hq=>?_;repeat first|refine T1 ?_|refine T0 ?_|refine T2 ?_
  refine Ok.c (Uo a q la hq.1) λt ht=>Ok.c (Qz4 t ht.1) λo ho=>Ok.d ?_;rw[ho,ht.2,hq.2];rw[nu,hl] at hL;unfold xN;rw[hL]
end Go.Proofs.YtjdieimefebnfaaGreatDoor
namespace Go.Proofs.YtjdieimefebnfaaGreatDoor
open Go Go.EV
theorem AX:Qy s71 (λr=>r=Jz):=⟨Jz,by kernel_rfl,rfl⟩
theorem CH(c:Bool)(e:Int):(A5 c e).o=some (bif c then .inl () else .inr ()):=by
 show (eF c e).run=_;unfold eF;simp only[T.run];cases c<;>rfl
theorem Ok.QB{P:Program}{G:zi}{ρ α β:Type}{Q:ρ->Prop}{a:Nat}{s:L0 P G α β}{Li Lo:List (Nat×Nat)}{k:α->T P G ρ}{k2:β->T P G ρ}{v:α}(hs:s.o=some (.inl v))(h:Ok (k v) Q):Ok (.Qi a s Li Lo k k2) Q:=Ok.Qi hs (by grind) (λr e=>by cases e)
theorem Ok.QA{P:Program}{G:zi}{ρ α β:Type}{Q:ρ->Prop}{a:Nat}{s:L0 P G α β}{Li Lo:List (Nat×Nat)}{k:α->T P G ρ}{k2:β->T P G ρ}{v:β}(hs:s.o=some (.inr v))(h:Ok (k2 v) Q):Ok (.Qi a s Li Lo k k2) Q:=Ok.Qi hs (λr e=>by cases e) (by grind)
theorem Ok.Zg{ρ:Type}{Q:ρ->Prop}{a:Nat}{c:Bool}{e:Int}{Li Lo:List (Nat×Nat)}{k k2:Unit->TT ρ}(hc:c=true)(h:Ok (k ()) Q):Ok (.Qi a (A5 c e) Li Lo k k2) Q:=by grind [Ok.QB,CH]
theorem Ok.Yy{ρ:Type}{Q:ρ->Prop}{a:Nat}{c:Bool}{e:Int}{Li Lo:List (Nat×Nat)}{k k2:Unit->TT ρ}(hc:c=false)(h:Ok (k2 ()) Q):Ok (.Qi a (A5 c e) Li Lo k k2) Q:=by grind [Ok.QA,CH]
theorem FD(e:Int):Qy (s57 true e) (λ_=>True):=⟨(),rfl,trivial⟩
theorem WC(s:ze):Qy (Fl s 0) (λr=>r=s):=by
 unfold Fl;refine Qy.fn ?_;unfold Qke;exact Ok.c (FD 0) λ_ _=>Ok.d rfl
theorem fE(t:Y1):Qy (tN t 0) (λr=>r=t):=by
 unfold tN;refine Qy.fn ?_;unfold Qkx;exact Ok.c (FD 0) λ_ _=>Ok.d rfl
theorem lV(b:Bool):Qy (vO b 0) (λr=>r=b):=by
 unfold vO;refine Qy.fn ?_;unfold Qmz;exact Ok.c (FD 0) λ_ _=>Ok.d rfl
theorem FW:Qy s66 (λr=>r=pP):=⟨_,rfl,rfl⟩
theorem Qya(k:Int)(b:ze)(hb:b.size<=100000):strOfNums [Qk k,Qk (Z5 .i64 (b.size:Int) 16),Qk (Z5 .i64 (b.size:Int) 8),Qk (b.size:Int)]++b=Zx k b:=by
 unfold Zx;rw[show (16:Int)=((16:Nat):Int) from rfl,show (8:Int)=((8:Nat):Int) from rfl,V0 _ 16 (by decide),V0 _ 8 (by decide),C2,C2,C2,C2];rfl
theorem ZV(n:Q9)(m:Z0)(hb:n.ft.size<=100000)(ht:m.fe.fq.size<=100000):Qy (Aa n m) (λr=>r=m.fe.fq++Zx n.fw n.ft):=by
 show Ok (Qyb n m) _;unfold Qyb;rw[Qya _ _ hb];refine Ok.k ?_ (Ok.k ?_ (Ok.d rfl))
 ·rw[E1,zM];grind
 ·rw[K0,zM];omega
theorem Lu(st k:Int)(b:ze)(m:Z0)(hn:T5 m.fe.fm=true)(hs:0<=m.fe.fo/\m.fe.fo<=100):Qy (Fg st k b m) (λr=>r=((Mm st m.fe.fm).fB,(Mm st m.fe.fm).fY,(Mm st m.fe.fm).fO,m.fe.fo+1,[⟨k,m.fe.fo,b⟩])):=by
 show Ok (Qj8 st k b m) _;unfold Qj8;have e1:Q0 (m.fe.fo+1)=m.fe.fo+1:=Z2 (by omega) (by omega);rw[e1];refine Ok.c FW λr hr=>?_;subst hr;refine Ok.n (R:=λc=>c=!decide (st=1\/st=6)) (Ok.e (λh=>Ok.d ?_) λh=>Ok.d ?_) λc hc=>?_
 ·grind
 ·grind
 subst hc;unfold Mm;refine Ok.e (λh=>?_) λh=>?_
 ·rw[if_neg (by simpa using h)];grind [Ok.c,kO,fE,Ok.g,Ok.d]
 ·rw[if_pos (by simp at h;omega)];exact Ok.g (Ok.g (Ok.d rfl))
theorem SD(m:Z0)(hf:m.fe.fZ.size=32):Qy (jT m) (λr=>r=Uw m.fe):=by
 show Ok (Qj7 m) _;unfold Qj7;refine Ok.c (WV _) λr hr=>?_;rw[if_pos hf] at hr;subst hr;exact Ok.c (WC _) λr hr=>Ok.d hr
theorem Cb(a b c d:ze)(m:Z0)(ha:a.size<=100)(hb:b.size<=100)(hc:c.size<=100)(hd:d.size<=100):Qy (tL a b c d m) (λr=>r=Vb a b c d):=by
 show Ok (Qyp a b c d m) _;unfold Qyp;refine Ok.k (by grind) (Ok.k (by grind) (Ok.c (AR (a++b) (c++d) Qw8 (by grind) (by grind) (by decide)) λr hr=>?_));subst hr;exact Ok.c (WC _) λr hr=>Ok.d hr
theorem XH(m:Z0)(side s:ze)(hm:m.fe.fC.size<=100)(hd:side.size<=100)(hs:s.size<=4096):Qy (jN m side s) (λr=>r=K3 m.fe.fC side s):=by
 show Ok (Qyn m side s) _;unfold Qyn;refine Ok.c (AR _ zg side (by omega) (by decide) (by omega)) λr hr=>?_;subst hr;refine Ok.c (WC _) λk hk=>?_;subst hk;refine Ok.c (FX s hs) λr hr=>?_;subst hr;refine Ok.c (WC _) λr hr=>?_;subst hr;refine Ok.c (SX _ _ (by rw[Ut];decide) (by rw[WO];decide)) λr hr=>?_;subst hr;exact Ok.c (WC _) λr hr=>Ok.d hr
theorem Ti(s:ze)(m:Z0)(hs:s.size<=1000000):(tF s m).o=some (if okB s=false then .inr (false,5) else if Yo (Zm s) m.fe.fL m.fe.fm≠0 then .inr (true,Yo (Zm s) m.fe.fL m.fe.fm) else .inl ((Zm s).fy,(Zm s).fJ,(Zm s).fI,(Zm s).fF,(Zm s).fQ)):=by
 show (Qys s m).run=_;unfold Qys;have h1:=(Dz s hs).eq;cases ho:okB s with
 | false=>
  have hd:UQ s=(zB,5):=by unfold UQ;rw[ho];rfl
  rw[if_pos rfl];simp only[T.run,h1,hd,CH];rfl
 | true=>
  have hd:UQ s=(Zm s,0):=by grind [UQ]
  have h2:=(Qzx (Zm s) m.fe.fL m.fe.fm).eq;rw[if_neg (by decide)];simp only[T.run,h1,hd,CH,h2,show ((0:Int)==0)=true from rfl,cond_true];by_cases ha:Yo (Zm s) m.fe.fL m.fe.fm=0
  ·grind
  ·rw[if_pos ha,show (Yo (Zm s) m.fe.fL m.fe.fm != 0)=true from by simpa using ha];rfl
theorem XQ(k p:ze)(hk:k.size=32)(hp:p.size=32):(jR k p).o=some (if xS k p=Oj then .inr 2 else .inl (xS k p)):=by
 show (Qyr k p).run=_;unfold Qyr;have h1:=(Vn k p hk hp).eq;by_cases h:xS k p=Oj
 ·rw[if_pos h];rw[if_pos ((LL k p).1 h)] at h1;simp only[T.run,h1];rfl
 simp_all [if_neg,LL,T.run]
theorem oX(m:Z0)(h:Vf m.fe):(Qhh m).o=some (2,m.fe.fo+1,[⟨1,m.fe.fo,m.fe.fG++Uw m.fe⟩],(Mm 2 m.fe.fm).fB,(Mm 2 m.fe.fm).fY,(Mm 2 m.fe.fm).fO):=by
 refine Qy.eq ?_;show Ok (Qjj m) _;unfold Qjj;refine Ok.v (SD m h.fr) λr hr=>?_;subst hr;refine Ok.k ?_ (Ok.c (Lu 2 1 _ m h.nw (by have:=h.sd;omega)) λr hr=>Ok.d ?_)
 ·rw[F7,h.rn];decide
 grind
theorem Vw{P:Program}{G:zi}{ρ:Type}{g:T P G ρ}{x:ρ}(h:Ok g (λr=>r=x)):g.run=some x:=by obtain⟨r,h1,rfl⟩:=h;exact h1
theorem Qub{b:ze}(h:b.size=32):((b.size:Int)==32)=true:=by rw[h];rfl
theorem Qw2{b:ze}(h:b.size≠32):((b.size:Int)==32)=false:=by simp;omega
theorem Qqe(b:ze)(m:Z0)(h:Vf m.fe)(hb:b.size<=4000):(vR b m).o=some (if b.size≠32 then .inr 5 else if ¬m.fe.fo < 7 then .inr 3 else .inl (3,m.fe.fo+1,Zx 1 (m.fe.fG++Uw m.fe++b),[⟨1,m.fe.fo,m.fe.fG++Uw m.fe++b⟩],(Mm 3 m.fe.fm).fB,(Mm 3 m.fe.fm).fY,(Mm 3 m.fe.fm).fO)):=by
 show (Qj6 b m).run=_;refine Vw ?_;unfold Qj6;by_cases hb:b.size=32
 rotate_left
 ·rw[if_pos hb];exact Ok.Yy (Qw2 hb) (Ok.d rfl)
 rw[if_neg (by simpa using hb)];refine Ok.Zg (Qub hb) ?_;by_cases hs:m.fe.fo < 7
 rotate_left
 ·rw[if_pos hs];exact Ok.Yy (qm hs) (Ok.d rfl)
 rw[if_neg (by simpa using hs)];refine Ok.Zg (wg hs) ?_;have sd:=h.sd;have hz:(m.fe.fG++Uw m.fe).size=64:=by rw[ByteArray.size_append,F7,h.rn]
 refine Ok.v (SD m h.fr) λr hr=>?_;subst hr;refine Ok.k (by grind) (Ok.k (by grind) (Ok.c (Lu 3 1 _ ⟨m.fe,m.QY,m.QL⟩ h.nw (by grind)) λr hr=>?_));subst hr;refine Ok.c (ZV ⟨1,m.fe.fo,m.fe.fG++Uw m.fe++b⟩ _ (by grind) (show (0:Nat)<=100000 by decide)) λr hr=>Ok.d ?_;grind [ByteArray.empty_append,ByteArray.empty]
theorem Qeg(b:ze)(m:Z0)(h:Vf m.fe):(Qhj b m).o=some (if b.size≠32 then .inr (false,5) else if b≠K3 m.fe.fC Jo m.fe.fq then .inr (true,9) else .inl (m.fe.fq++Zx 5 b,-1,0,0)):=by
 show (Qj4 b m).run=_;refine Vw ?_;unfold Qj4;by_cases hb:b.size=32
 rotate_left
 ·rw[if_pos hb];exact Ok.Yy (Qw2 hb) (Ok.d rfl)
 rw[if_neg (by simpa using hb)];refine Ok.Zg (Qub hb) (Ok.v (XH m Jo m.fe.fq (by have:=h.ma;omega) (by decide) (by have:=h.td;omega)) λr hr=>?_);subst hr;by_cases hc:b=K3 m.fe.fC Jo m.fe.fq
 ·rw[if_neg (by simpa using hc)];refine Ok.f (by grind) (Ok.c (ZV ⟨5,0,b⟩ ⟨m.fe,m.QY,m.QL⟩ (by grind) (show m.fe.fq.size<=100000 by have:=h.td;omega)) λr hr=>Ok.c FW λr2 hr2=>Ok.d ?_);subst hr hr2;rfl
 ·rw[if_pos hc];exact Ok.t (by grind) (Ok.o (r:=()) rfl (Ok.Hp (Ok.d rfl)))
theorem Qur(m:Z0)(h:Vf m.fe):(Qhu m).o=some (bif !(Ub m.fe.fD m.fe.fm).1 then .inl (m.fe.fD.fB,m.fe.fD.fY,m.fe.fD.fO,m.QL) else bif (GD m.fe.fD m.fe.fm).2 != 0 then .inr () else .inl ((GD m.fe.fD m.fe.fm).1.fB,(GD m.fe.fD m.fe.fm).1.fY,(GD m.fe.fD m.fe.fm).1.fO,m.fe.fP)):=by
 show (Qjz m).run=_;refine Vw ?_;unfold Qjz;have e0:(Ub m.fe.fD m.fe.fm).2=0:=by unfold Ub;rw[h.tm,h.nw];rfl
 refine Ok.c (kF m.fe.fD m.fe.fm) λr hr=>?_;subst hr;rw[e0];refine Ok.c (lV _) λr hr=>?_;subst hr;refine Ok.e (by grind [Ok.d]) λhc=>?_;rw[hc,cond_false];refine Ok.c (kN m.fe.fD m.fe.fm) λr hr=>?_;subst hr;refine Ok.e (λhd=>?_) (by grind [Ok.d]);rw[hd,cond_true];exact Ok.o (r:=()) rfl (Ok.Hp (Ok.d rfl))
def pO(s:Q3)(b:ze):(Q3×List Q9)⊕(ze×ze×ze×Bool×Int)->Prop
 | .inl r=>O1 s b=.inl r
 | .inr q=>O1 s b=.inr (q.2.2.2.1,q.q)
theorem pW(b:ze)(m:Z0)(h:Vf m.fe)(hb:b.size<=4000):Ok (Qj5 b m) (pO m.fe b):=by
 have inl:∀r,O1 m.fe b=.inl r->pO m.fe b (.inl r):=λ_ h=>h;have inr:∀q,O1 m.fe b=.inr (q.2.2.2.1,q.q)->pO m.fe b (.inr q):=λ_ h=>h;generalize hQ:pO m.fe b=Q at *;clear hQ;unfold Qj5;unfold O1 at inl inr;by_cases h64:64 < b.size
 rotate_left
 ·rw[if_pos h64] at inr;exact Ok.Yy (by grind) (Ok.d (inr _ rfl))
 rw[if_neg (by grind)] at inl inr;have c2:(decide (0<=(64:Int))&&decide ((64:Int)<=(b.size:Int)))=true:=by simp;omega
 have c3:(decide (0<=(32:Int))&&decide ((32:Int)<=(b.size:Int)))=true:=by simp;omega
 have hx:(b.extract 64 b.size).size=b.size - 64:=by simp_all
 have z1:(b.extract 0 32).size=32:=by rw[ByteArray.size_extract];omega
 have z2:(b.extract 32 64).size=32:=by rw[ByteArray.size_extract];omega
 have e1:=Ti (b.extract 64 b.size) m (by omega);refine Ok.Zg (wg (by omega)) (Ok.k c2 ?_);cases ho:okB (b.extract 64 b.size) with
 | false=>
  rw[ho,if_pos rfl] at e1 inr;exact Ok.QA e1 (Ok.d (inr _ rfl))
 | true=>
  rw[ho,if_neg (by decide)] at e1 inr inl;generalize Yo (Zm (b.extract 64 b.size)) m.fe.fL m.fe.fm=acc at *;by_cases ha:acc=0
  rotate_left
  ·rw[if_pos ha] at e1 inr;exact Ok.QA e1 (Ok.d (inr _ rfl))
  rw[if_neg (by simpa using ha)] at e1 inr inl;have hb2:=(Yq ho).2;have kz:=(XW ho).1;have f1:=XQ m.fe.fZ (Zm (b.extract 64 b.size)).fJ h.fr kz;have f2:=XQ m.fe.gd (b.extract 32 64) h.sc z2;refine Ok.QB e1 (Ok.k c3 (Ok.k (by rw[c2];rfl) (Ok.k c2 ?_)));by_cases s1:xS m.fe.fZ (Zm (b.extract 64 b.size)).fJ=Oj
  ·rw[if_pos (Or.inl s1)] at inr;rw[if_pos s1] at f1;exact Ok.QA f1 (Ok.d (inr _ rfl))
  rw[if_neg s1] at f1;refine Ok.QB f1 ?_;by_cases s2:xS m.fe.gd (b.extract 32 64)=Oj
  ·rw[if_pos (Or.inr s2)] at inr;rw[if_pos s2] at f2;exact Ok.QA f2 (Ok.d (inr _ rfl))
  rw[if_neg (λq=>q.elim s1 s2)] at inl;rw[if_neg s2] at f2;refine Ok.QB f2 ?_;have td:=h.td;have bz:=h.bz;have sd:=h.sd;have tz:(Jl m.fe b).size<=600:=by grind [ByteArray.size_append,K0,Jl]
  have mz:(Xs m.fe b).size=32:=Ut _ _ _;refine Ok.c (Cb _ _ _ _ _ (by rw[ZI];decide) (by rw[ZI];decide) (by rw[h.rn];decide) (by grind)) λr hr=>?_;rw[show r=Xs m.fe b from hr];clear hr;refine Ok.c (ZV ⟨3,0,b⟩ _ (show b.size<=100000 by omega) (show m.fe.fq.size<=100000 by omega)) λr hr=>?_;rw[show r=Jl m.fe b from hr];clear hr;have tz2:(Jl m.fe b++m.fe.fh).size<=700:=by rw[ByteArray.size_append];omega
  refine Ok.k (by rw[zM];omega) (Ok.v (XH _ Yc (Jl m.fe b++m.fe.fh) (show (Xs m.fe b).size<=100 by omega) (by decide) (by omega)) λr hr=>?_);rw[show r=K3 (Xs m.fe b) Yc (Jl m.fe b++m.fe.fh) from hr];clear hr;refine Ok.k (by rw[zM,M9];omega) (Ok.c (Lu 5 4 (HH m.fe b) _ h.nw (show 0<=m.fe.fo/\m.fe.fo<=100 by omega)) λr hr=>?_);subst hr;refine Ok.c (ZV ⟨4,m.fe.fo,HH m.fe b⟩ _ (show (HH m.fe b).size<=100000 by unfold HH;rw[ByteArray.size_append,M9];omega) (show (Jl m.fe b).size<=100000 by omega)) λr hr=>Ok.d (inl _ ?_);rw[hr];rfl
def pD(s:Q3)(f b:ze):(Q3×List Q9)⊕Int->Prop
 | .inl r=>G1 s f b=.inl r
 | .inr e=>G1 s f b=.inr (false,e)
theorem Qym(b:ze)(m:Z0)(h:Vf m.fe)(hf:m.QY.size<=64):Ok (Qj3 b m) (pD m.fe m.QY b):=by
 have inl:∀r,G1 m.fe m.QY b=.inl r->pD m.fe m.QY b (.inl r):=λ_ h=>h;have inr:∀e,G1 m.fe m.QY b=.inr (false,e)->pD m.fe m.QY b (.inr e):=λ_ h=>h;generalize hQ:pD m.fe m.QY b=Q at *;clear hQ;unfold Qj3;unfold G1 at inl inr;have td:=h.td;have bz:=h.bz;have sd:=h.sd;have ck:=h.ck;by_cases hz:b.size=64\/b.size=96
 rotate_left
 ·have n1:((b.size:Int)==64)=false:=by simp;omega
  have n2:((b.size:Int)==96)=false:=by simp;omega
  rw[if_pos ⟨λe=>hz (.inl e),λe=>hz (.inr e)⟩] at inr;exact Ok.f n1 (Ok.Yy n2 (Ok.d (inr _ rfl)))
 rw[if_neg (λq=>hz.elim q.1 q.2)] at inl inr;have c2:(decide (0<=(64:Int))&&decide ((64:Int)<=(b.size:Int)))=true:=by simp;omega
 have c3:(decide (0<=(32:Int))&&decide ((32:Int)<=(b.size:Int)))=true:=by simp;omega
 have z0:(b.extract 0 64).size=64:=by rw[ByteArray.size_extract];omega
 have zf:(m.QY++b.extract 0 64).size<=128:=by grind
 have om:=SX m.fe.gb (m.QY++b.extract 0 64) (by omega) (by omega);generalize hM:V2 m.fe.gb (m.QY++b.extract 0 64)=M at *;have zr:(m.fe.fG++Uw m.fe).size=64:=by rw[ByteArray.size_append,F7,h.rn]
 have zt:(Dx m.fe b).size<=600:=by grind [ByteArray.size_append,K0,Dx]
 have zb:(HJ m.fe).size<=200:=by grind [ByteArray.size_append,HJ]
 refine Ok.e (λ_=>Ok.Zg rfl ?_) λhn=>Ok.Zg (by grind) ?_;all_goals
  refine Ok.k c2 (Ok.k (by grind) (Ok.c om λr hr=>?_));subst hr;refine Ok.c (WC _) λr hr=>?_;subst hr;refine Ok.k c2 ?_;by_cases hc:b.extract 64 b.size=r
  ·rw[if_neg (by simpa using hc)] at inl;refine Ok.f (by grind) (Ok.k c3 (Ok.k (by rw[c2];rfl) (Ok.c (ZV ⟨1,0,b⟩ _ (show b.size<=100000 by omega) (show m.fe.fq.size<=100000 by omega)) λr2 hr2=>?_)));rw[show r2=Dx m.fe b from hr2];clear hr2;refine Ok.v (SD _ (show m.fe.fZ.size=32 from h.fr)) λp hp=>?_;rw[show p=Uw m.fe from hp];clear hp;refine Ok.k (by grind) (Ok.k (by grind) (Ok.c (Lu 4 3 (HJ m.fe) _ h.nw (by grind)) λq hq=>?_));subst hq;refine Ok.c (ZV ⟨3,m.fe.fo,HJ m.fe⟩ _ (show (HJ m.fe).size<=100000 by omega) (show (Dx m.fe b).size<=100000 by omega)) λq hq=>Ok.d (inl _ ?_);rw[hq];rfl
  ·rw[if_pos hc] at inl inr;refine Ok.t (by grind) ?_;by_cases hs:m.fe.fo < 6
   ·rw[if_neg (by simpa using hs)] at inl;refine Ok.Zg (wg hs) (Ok.c (Lu 1 2 r ⟨m.fe,m.QY,m.QL⟩ h.nw (show 0<=m.fe.fo/\m.fe.fo<=100 by omega)) λq hq=>Ok.d (inl _ ?_));subst hq;rfl
   ·rw[if_pos hs] at inr;exact Ok.Yy (qm hs) (Ok.d (inr _ rfl))
def pE(s:Q3)(b:ze):(Int×Int×ze×ze×ze×List Q9×Int×Int×Int)⊕(ze×Bool×Int)->Prop
 | .inl r=>R6 s b=.inl ({ s with fk:=r.1,fo:=r.2.1,fq:=r.2.2.1,fj:=⟨s.fj.fG,s.fj.fR,r.2.2.2.1⟩,fC:=r.q.1,fP:=r.q.2.1,fD:=⟨r.q.2.2.1,r.q.2.2.2.1,r.q.q⟩ },r.q.2.1)
 | .inr q=>R6 s b=.inr (q.2.1,q.2.2)
theorem Qqo(b:ze)(m:Z0)(h:Vf m.fe)(hb:b.size<=4000)(hp:m.fe.fj.fR.size=32):Ok (Qj2 b m) (pE m.fe b):=by
 have inl:∀r,R6 m.fe b=.inl ({ m.fe with fk:=r.1,fo:=r.2.1,fq:=r.2.2.1,fj:=⟨m.fe.fj.fG,m.fe.fj.fR,r.2.2.2.1⟩,fC:=r.q.1,fP:=r.q.2.1,fD:=⟨r.q.2.2.1,r.q.2.2.2.1,r.q.q⟩ },r.q.2.1)->pE m.fe b (.inl r):=λ_ h=>h;have inr:∀q,R6 m.fe b=.inr (q.2.1,q.2.2)->pE m.fe b (.inr q):=λ_ h=>h;generalize hQ:pE m.fe b=Q at *;clear hQ;unfold Qj2;unfold R6 at inl inr;by_cases h64:32 < b.size
 rotate_left
 ·rw[if_pos h64] at inr;exact Ok.Yy (by grind) (Ok.d (inr _ rfl))
 rw[if_neg (by grind)] at inl inr;have c3:(decide (0<=(32:Int))&&decide ((32:Int)<=(b.size:Int)))=true:=by simp;omega
 have hx:(b.extract 32 b.size).size=b.size - 32:=by rw[ByteArray.size_extract];omega
 have e1:=Ti (b.extract 32 b.size) m (by omega);refine Ok.Zg (wg (by omega)) (Ok.k c3 (Ok.k c3 ?_));cases ho:okB (b.extract 32 b.size) with
 | false=>
  rw[ho,if_pos rfl] at e1 inr;exact Ok.QA e1 (Ok.d (inr _ rfl))
 | true=>
  rw[ho,if_neg (by decide)] at e1 inr inl;generalize Yo (Zm (b.extract 32 b.size)) m.fe.fL m.fe.fm=acc at *;by_cases ha:acc=0
  rotate_left
  ·rw[if_pos ha] at e1 inr;exact Ok.QA e1 (Ok.d (inr _ rfl))
  rw[if_neg (by simpa using ha)] at e1 inr inl;have hb2:=(Yq ho).2;have kz:=(XW ho).1;have f1:=XQ m.fe.gd m.fe.fj.fR h.sc hp;have f2:=XQ m.fe.fZ (Zm (b.extract 32 b.size)).fJ h.fr kz;refine Ok.QB e1 ?_;by_cases s1:xS m.fe.gd m.fe.fj.fR=Oj
  ·rw[if_pos (Or.inl s1)] at inr;rw[if_pos s1] at f1;exact Ok.QA f1 (Ok.d (inr _ rfl))
  rw[if_neg s1] at f1;refine Ok.QB f1 ?_;by_cases s2:xS m.fe.fZ (Zm (b.extract 32 b.size)).fJ=Oj
  ·rw[if_pos (Or.inr s2)] at inr;rw[if_pos s2] at f2;exact Ok.QA f2 (Ok.d (inr _ rfl))
  rw[if_neg (λq=>q.elim s1 s2)] at inl inr;rw[if_neg s2] at f2;refine Ok.QB f2 ?_;have td:=h.td;have bz:=h.bz;have sd:=h.sd;have pr:=h.pp.2;have mz:(Um m.fe b).size=32:=Ut _ _ _;refine Ok.c (Cb _ _ _ _ _ (by rw[ZI];decide) (by rw[ZI];decide) (by omega) (by rw[h.rn];decide)) λr hr=>?_;rw[show r=Um m.fe b from hr];clear hr;have tz0:(m.fe.fq++b.extract 32 b.size).size<=1000:=by grind
  refine Ok.k (by grind) (Ok.v (XH _ Yc (m.fe.fq++b.extract 32 b.size) (by grind) (by decide) (by omega)) λr hr=>?_);have hr:r=K3 (Um m.fe b) Yc (m.fe.fq++b.extract 32 b.size):=hr;rw[<-hr] at inl inr;clear hr;by_cases hc:b.extract 0 32=r
  rotate_left
  ·rw[if_pos hc] at inr;exact Ok.t (by grind) (Ok.o (r:=()) rfl (Ok.Hp (Ok.d (inr _ rfl))))
  rw[if_neg (by simpa using hc)] at inl;refine Ok.f (by grind) (Ok.c (ZV ⟨4,0,b⟩ _ (show b.size<=100000 by omega) (show m.fe.fq.size<=100000 by omega)) λt ht=>?_);rw[show t=Ml m.fe b from ht];clear ht;have tz:(Ml m.fe b).size<=1000:=by unfold Ml;rw[ByteArray.size_append,K0];omega
  have zc:(Wh m.fe b).size=32:=M9 _ _ _;refine Ok.v (XH _ Jo (Ml m.fe b) (show (Um m.fe b).size<=100 by omega) (by decide) (by omega)) λc hc=>?_;rw[show c=Wh m.fe b from hc];clear hc;refine Ok.c (Lu 6 5 (Wh m.fe b) _ h.nw (show 0<=m.fe.fo/\m.fe.fo<=100 by omega)) λq hq=>?_;subst hq;refine Ok.c (ZV ⟨5,m.fe.fo,Wh m.fe b⟩ _ (show (Wh m.fe b).size<=100000 by omega) (show (Ml m.fe b).size<=100000 by omega)) λq hq=>Ok.d (inl _ ?_);rw[hq];rfl
def pX(s:Q3)(f:ze)(n:Q9):(Q3×List Q9)⊕(ze×ze×ze×ze×Bool×Int)->Prop
 | .inl r=>U9 s f n=.inl r
 | .inr q=>U9 s f n=.inr (q.q.1,q.q.2)
theorem EA{p:Z0}{n:Q9}{f:FuncId}{a b c:Int}{x0 h0 hk hf}(h:OU p.fe.fp p.fe.fk n.fw [QW a,QW b,QW c]=true):(DK p n f a b c x0 h0 hk hf).o=some ():=by
 grind [DK]
theorem rH(n:Q9)(m:Z0)(h:Vf m.fe)(hf:m.QY.size<=64)(hn:n.ft.size<=4000)(hs:m.QL=[]):Ok (Qjy n m) (pX m.fe m.QY n):=by
 have inl:∀r,U9 m.fe m.QY n=.inl r->pX m.fe m.QY n (.inl r):=λ_ h=>h;have inr:∀q,U9 m.fe m.QY n=.inr (q.q.1,q.q.2)->pX m.fe m.QY n (.inr q):=λ_ h=>h;generalize hQ:pX m.fe m.QY n=Q at *;clear hQ;unfold Qjy;have q3:∀{a b c:Int} {r:Bool},OU m.fe.fp m.fe.fk n.fw [QW a,QW b,QW c]=r->(r=true->m.fe.fp=a/\m.fe.fk=b/\n.fw=c)/\(r=false->¬(m.fe.fp=a/\m.fe.fk=b/\n.fw=c)):=(by grind [Gm]);have rP:=Qqe n.ft m h hn;refine Ok.e (λh0=>?_) λh0=>Ok.e (λh1=>?_) λh1=>Ok.e (λh2=>?_) λh2=>Ok.e (λh3=>?_) λh3=>Ok.e (λh4=>?_) λh4=>Ok.e (λh5=>?_) λh5=>?_
 ·obtain⟨a,b,c⟩:=(q3 h0).1 rfl;have e:U9 m.fe m.QY n=S8 m.fe n.ft:=by simp_all [if_pos,U9]
  rw[e] at inl inr;unfold S8 at inl inr;refine Ok.t rfl (Ok.Ou (r:=()) (EA h0) (Ok.Zg rfl ?_));by_cases z:n.ft.size≠32
  ·rw[if_pos z] at rP inr;exact Ok.QA rP (Ok.d (inr _ rfl))
  rw[if_neg z] at rP inr inl;by_cases z2:¬m.fe.fo < 7
  ·rw[if_pos z2] at rP inr;exact Ok.QA rP (Ok.d (inr _ rfl))
  rw[if_neg z2] at rP inr inl;exact Ok.QB rP (Ok.d (inl _ rfl))
 ·obtain⟨a,b,c⟩:=(q3 h1).1 rfl;have e:U9 m.fe m.QY n=S8 m.fe n.ft:=by simp_all [if_pos,U9]
  rw[e] at inl inr;unfold S8 at inl inr;refine Ok.t rfl (Ok.Ou (r:=()) (EA h1) (Ok.Zg rfl ?_));by_cases z:n.ft.size≠32
  ·rw[if_pos z] at rP inr;exact Ok.QA rP (Ok.d (inr _ rfl))
  rw[if_neg z] at rP inr inl;by_cases z2:¬m.fe.fo < 7
  ·rw[if_pos z2] at rP inr;exact Ok.QA rP (Ok.d (inr _ rfl))
  rw[if_neg z2] at rP inr inl;exact Ok.QB rP (Ok.d (inl _ rfl))
 ·obtain⟨a,b,c⟩:=(q3 h2).1 rfl;have e:U9 m.fe m.QY n=O1 m.fe n.ft:=by
   simp_all [if_neg,if_pos,U9]
  rw[e] at inl inr;refine Ok.t rfl (Ok.Ou (r:=()) (EA h2) (Ok.Zg rfl ?_));obtain⟨x,x1,x2⟩:=pW n.ft m h hn;cases x with
  | inl r=>exact Ok.QB (show (vN n.ft m).o=_ from x1) (Ok.d (inl _ x2))
  | inr r=>exact Ok.QA (show (vN n.ft m).o=_ from x1) (Ok.d (inr _ x2))
 ·obtain⟨a,b,c⟩:=(q3 h3).1 rfl;have e:U9 m.fe m.QY n=Hc m.fe n.ft:=by
   simp_all [if_neg,if_pos,U9]
  rw[e] at inl inr;unfold Hc at inl inr;refine Ok.t rfl (Ok.Ou (r:=()) (EA h3) (Ok.Zg rfl ?_));have dP:=Qeg n.ft m h;by_cases z:n.ft.size≠32
  ·rw[if_pos z] at dP inr;exact Ok.QA dP (Ok.d (inr _ rfl))
  rw[if_neg z] at dP inr inl;by_cases z2:n.ft≠K3 m.fe.fC Jo m.fe.fq
  ·rw[if_pos z2] at dP inr;exact Ok.QA dP (Ok.d (inr _ rfl))
  rw[if_neg z2] at dP inr inl;exact Ok.QB dP (Ok.g (Ok.d (inl _ (by rw[hs];rfl))))
 ·obtain⟨a,b,c⟩:=(q3 h4).1 rfl;have e:U9 m.fe m.QY n=G1 m.fe m.QY n.ft:=by
   simp_all [if_neg,if_pos,U9]
  rw[e] at inl inr;refine Ok.t rfl (Ok.Ou (r:=()) (EA h4) (Ok.Zg rfl ?_));obtain⟨x,x1,x2⟩:=Qym n.ft m h hf;cases x with
  | inl r=>exact Ok.QB (show (vG n.ft m).o=_ from x1) (Ok.d (inl _ x2))
  | inr r=>exact Ok.QA (show (vG n.ft m).o=_ from x1) (Ok.d (inr _ x2))
 ·obtain⟨a,b,c⟩:=(q3 h5).1 rfl;have e:U9 m.fe m.QY n=R6 m.fe n.ft:=by
   simp_all [if_neg,if_pos,U9]
  rw[e] at inl inr;refine Ok.t rfl (Ok.Ou (r:=()) (EA h5) (Ok.Zg rfl ?_));obtain⟨x,x1,x2⟩:=Qqo n.ft m h hn (h.lk a b);cases x with
  | inl r=>exact Ok.QB (show (vL n.ft m).o=_ from x1) (Ok.d (inl _ x2))
  | inr r=>exact Ok.QA (show (vL n.ft m).o=_ from x1) (Ok.d (inr _ x2))
 ·have n0:=(q3 h0).2 rfl;have n1:=(q3 h1).2 rfl;have n2:=(q3 h2).2 rfl;have n3:=(q3 h3).2 rfl;have n4:=(q3 h4).2 rfl;have n5:=(q3 h5).2 rfl;have e:U9 m.fe m.QY n=.inr (false,8):=by
   unfold U9;grind
  rw[e] at inl inr;refine Ok.t rfl (Ok.Ou (r:=()) ?_ (Ok.Yy rfl (Ok.d (inr _ rfl))));grind [jY,OU,A6]
def EvR(s:Q3)(v:Q7):(Q3×List Q9)⊕(ze×ze×ze×ze×Bool×Int)->Prop
 | .inl r=>Kx s v=.inl r
 | .inr q=>Kx s v=.inr (q.q.1,q.q.2)
theorem Qi4(v:Q7)(m:Z0)(h:Vf m.fe)(hf:m.QY=v.fI)(hf2:v.fI.size<=64)(hn:v.fw=2->v.fM.ft.size<=4000)(hs:m.QL=[])(hk:1<=v.fw/\v.fw<=4):Ok (eO m v) (EvR m.fe v):=by
 have inl:∀r,Kx m.fe v=.inl r->EvR m.fe v (.inl r):=λ_ h=>h;have inr:∀q,Kx m.fe v=.inr (q.q.1,q.q.2)->EvR m.fe v (.inr q):=λ_ h=>h;generalize hQ:EvR m.fe v=Q at *;clear hQ;unfold eO;unfold Kx at inl inr;refine Ok.e (λh1=>?_) λh1=>?_
 ·rw[if_pos (by simpa using h1)] at inl inr;unfold HR at inl inr;refine Ok.e (λh2=>?_) λh2=>?_
  ·rw[h2,Bool.true_and] at inl inr;cases h3:(m.fe.fk==1) with
   | true=>
    rw[h3,cond_true] at inl;exact Ok.Zg rfl (Ok.c (Qy.o (oX m h)) λr hr=>Ok.d (inl _ (by rw[hr];rfl)))
   | false=>
    rw[h3,cond_false] at inr;exact Ok.Yy rfl (Ok.d (inr _ rfl))
  ·rw[h2,Bool.false_and,cond_false] at inr;exact Ok.Yy rfl (Ok.d (inr _ rfl))
 rw[if_neg (by simpa using h1)] at inl inr;refine Ok.e (λh2=>?_) λh2=>?_
 ·have h2:v.fw=2:=by simpa using h2
  rw[if_pos h2] at inl inr;obtain⟨x,x1,x2⟩:=rH v.fM m h (by rw[hf];exact hf2) (hn h2) hs;rw[hf] at x2;cases x with
  | inl r=>exact Ok.QB (show (Qqj v.fM m).o=_ from x1) (Ok.d (inl _ x2))
  | inr r=>exact Ok.QA (show (Qqj v.fM m).o=_ from x1) (Ok.d (inr _ x2))
 rw[if_neg (by simpa using h2)] at inl inr;refine Ok.e (λh3=>?_) λh3=>?_
 ·rw[if_pos (by simpa using h3)] at inl inr;have tP:=Qur m h;unfold HI at inl inr;cases hd:(!(Ub m.fe.fD m.fe.fm).1) with
  | true=>
   simp_all [cond_true,Ok.QB,Ok.d]
  | false=>
   rw[hd,cond_false] at tP inl inr;cases ha:((GD m.fe.fD m.fe.fm).2 != 0) with
   | true=>
    rw[ha,cond_true] at tP inr;exact Ok.QA tP (Ok.d (inr _ rfl))
   | false=>
    rw[ha,cond_false] at tP inl;exact Ok.QB tP (Ok.d (inl _ rfl))
 rw[if_neg (by simpa using h3)] at inl inr;grind [Ok.t,Ok.e,Ok.d]
theorem Qey(e:Int)(m:Z0):(rW m e).run=some (-1,0,0):=by
 have h1:(Qhw e m).o=some (-1,0,0):=by
  refine Qy.eq ?_;show Ok (Qju e m) _;unfold Qju;exact Ok.c FW λr hr=>Ok.d (by rw[hr];rfl)
 refine Vw ?_;unfold rW;exact Ok.o (r:=()) rfl (Ok.ff (Ok.o (r:=()) rfl (Ok.tt (Ok.c (Qy.o h1) λr hr=>Ok.g (Ok.d hr)))))
theorem Qji(v:Q7)(s:Q3)(h:Vf s)(hf2:v.fI.size<=64)(hn:v.fw=2->v.fM.ft.size<=4000)(hk:1<=v.fw/\v.fw<=4) :
  evR ⟨s,v.fI,[]⟩ v=some (match Kx s v with|.inl r=>.inl ⟨r.1,v.fI,r.2⟩|.inr (true,e)=>.inl ⟨JU s e,v.fI,[]⟩|.inr (false,e)=>.inr e):=by
 obtain⟨x,x1,x2⟩:=Qi4 v ⟨s,v.fI,[]⟩ h rfl hf2 hn rfl hk;unfold evR;rw[x1];cases x with
 | inl r=>
  rw[show Kx s v=.inl r from x2];rfl
 | inr q=>
  obtain⟨q1,q2,q3,q4,q5,q6⟩:=q;rw[show Kx s v=.inr (q5,q6) from x2];cases q5 with
  | true=>
   simp only[cond_true,Qey];rfl
  | false=>rfl
theorem NV(l:List ze)(h:l.length<=100000):(s60 l).o=some ():=by
 show (g60 l).run=_;refine Vw ?_;unfold g60;exact Ok.app (by grind) (Ok.d rfl)
theorem Wx(l:List Q9)(h:l.length<=100000):(s61 l).o=some ():=by
 show (g61 l).run=_;refine Vw ?_;unfold g61;exact Ok.app (by grind) (Ok.d rfl)
def Qh6:(Q3×List Q9)⊕(Bool×Int)->Q3×List Q9×Int
 | .inl r=>jM r
 | .inr r=>(Fw,[],r.2)
theorem Vf.at{s:Q3}(h:Vf s){n:Int}(hn:T5 n=true):Vf { s with fm:=n }:=⟨hn,h.sc,h.fr,h.rn,h.ck,h.bd,h.bz,h.pl,h.ps,h.sd,h.td,h.tm,h.pb,h.pp,h.ma,h.ll,h.lk⟩
theorem Qem(s:Q3)(v:Q7)(h:s.fP.length<=1):∀r,Kx s v=.inl r->r.2.length<=1:=by
 intro r hr;have sh:∀(x:Out),(∀q,x=.inl q->q.2.length<=1)->x=.inl r->r.2.length<=1:=λx hx he=>hx r he;unfold Kx at hr;split at hr
 ·unfold HR at hr;cases hc:(s.fp==1&&s.fk==1)<;>rw[hc] at hr<;>simp at hr;rw[<-hr];simp
 split at hr
 ·unfold U9 at hr;split at hr
  ·unfold S8 at hr
   (repeat' split at hr)<;>simp at hr
   rw[<-hr];simp
  split at hr
  ·unfold O1 at hr
   (repeat' split at hr)<;>simp at hr
   rw[<-hr];simp
  split at hr
  ·unfold Hc at hr
   (repeat' split at hr)<;>simp at hr
   rw[<-hr];simp
  split at hr
  ·unfold G1 at hr
   (repeat' split at hr)<;>simp at hr<;>(rw[<-hr];simp)
  split at hr
  ·unfold R6 at hr
   (repeat' split at hr)<;>simp at hr
   rw[<-hr];simp
  ·simp at hr
 split at hr
 ·unfold HI at hr;cases hc:(!(Ub s.fD s.fm).1)<;>rw[hc] at hr
  ·rw[cond_false] at hr;cases hd:((GD s.fD s.fm).2 != 0)<;>rw[hd] at hr<;>simp at hr;rw[<-hr];exact h
  ·simp at hr;rw[<-hr];simp
 ·simp at hr;rw[<-hr];cases (s.fp==2)
  ·simp
  ·exact h
theorem ZF(s:Q3)(v:Q7)(hs:Sm s):Qy (jG s v) (λr=>r=U7 s v):=by
 have key:Ok (eE s v) (λq=>Qh6 q=U7 s v):=by
  unfold eE;refine Ok.c (AF s hs) λr hr=>?_;subst hr;unfold U7;cases hv:QZ s with
  | false=>exact Ok.Yy rfl (Ok.d rfl)
  | true=>
   refine Ok.Zg rfl ?_;rw[cond_true];have vf:=I7 hv;unfold Bi;refine Ok.e (λc1=>?_) λc1=>Ok.Yy rfl (Ok.d (by rw[c1];rfl));refine Ok.e (λc2=>?_) λc2=>Ok.Yy rfl (Ok.d (by rw[c1,c2];rfl));refine Ok.e (λc3=>?_) λc3=>Ok.Yy rfl (Ok.d (by rw[c1,c2,c3];rfl));refine Ok.e (λc4=>?_) λc4=>Ok.Yy rfl (Ok.d (by rw[c1,c2,c3,c4];rfl));cases c5:decide ((v.fI.size:Int)<=64) with
   | false=>exact Ok.Yy rfl (Ok.d (by rw[c1,c2,c3,c4];rfl))
   | true=>
    rw[c1,c2,c3,c4];simp only[Bool.true_and];refine Ok.Zg rfl ?_;have hnw:T5 v.fm=true:=by
     have:=vf.nw;unfold T5 at this ⊢;simp only[zL,zM] at this c3 c4 ⊢;omega
    have vf2:=vf.at hnw;have hf2:v.fI.size<=64:=by simp at c5;omega
    have hk:1<=v.fw/\v.fw<=4:=by simp at c1 c2;exact⟨c1,c2⟩
    have e1:=NV s.fL (by have:=vf.pl;omega);have e2:=Wx s.fP (by have:=vf.ll;omega);have e3:Qy (s59 v.fI) (λr=>r=v.fI):=by
     show Ok (g59 v.fI) _;unfold g59;exact Ok.c (R:=λ_=>True) (show Ok (dU _) _ from Ok.k (by rw[zM];omega) (Ok.d trivial)) λ_ _=>Ok.d rfl
    have evl:=Qem { s with fm:=v.fm } v vf.ll;have eve:∀(hn:v.fw=2->v.fM.ft.size<=4000),(tQ v ⟨{ s with fm:=v.fm },v.fI,[]⟩).o=some (match Kx { s with fm:=v.fm } v with|.inl r=>.inl ⟨r.1,v.fI,r.2⟩|.inr (true,e)=>.inl ⟨JU { s with fm:=v.fm } e,v.fI,[]⟩|.inr (false,e)=>.inr e):=λhn=>Qji v { s with fm:=v.fm } vf2 hf2 hn hk;generalize hE:Kx { s with fm:=v.fm } v=E at *;refine Ok.e (λc6=>?_) λc6=>?_
    ·have k2:v.fw≠2:=by simpa using c6
     have eve:=eve λh=>absurd h k2;refine Ok.Zg rfl (Ok.c e3 λr hr=>?_);subst hr;refine Ok.c (Qy.o e1) λ_ _=>Ok.c (Qy.o e2) λ_ _=>Ok.g (Ok.g (Ok.g ?_));rw[c6,Bool.true_or,cond_true];match E,eve,evl with
     | .inl r,eve,evl=>exact Ok.QB eve (Ok.c (Qy.o (Wx r.2 (by have:=evl r rfl;omega))) λ_ _=>Ok.g (Ok.d rfl))
     | .inr (true,e),eve,evl=>exact Ok.QB eve (Ok.c (Qy.o (Wx [] (by simp))) λ_ _=>Ok.g (Ok.d rfl))
     | .inr (false,e),eve,evl=>exact Ok.QA eve (Ok.d rfl)
    ·refine Ok.c (NC v.fM) λr hr=>?_;rw[c6,Bool.false_or];cases hn:B7 v.fM with
     | false=>
      rw[hn] at hr;subst hr;exact Ok.Yy rfl (Ok.d rfl)
     | true=>
      rw[hn] at hr;subst hr;have eve:=eve λ_=>by
       unfold B7 at hn;simp only[zL,zM] at hn;omega
      refine Ok.Zg rfl (Ok.c e3 λr hr=>?_);subst hr;refine Ok.c (Qy.o e1) λ_ _=>Ok.c (Qy.o e2) λ_ _=>Ok.g (Ok.g (Ok.g ?_));rw[cond_true];match E,eve,evl with
      | .inl r,eve,evl=>exact Ok.QB eve (Ok.c (Qy.o (Wx r.2 (by have:=evl r rfl;omega))) λ_ _=>Ok.g (Ok.d rfl))
      | .inr (true,e),eve,evl=>exact Ok.QB eve (Ok.c (Qy.o (Wx [] (by simp))) λ_ _=>Ok.g (Ok.d rfl))
      | .inr (false,e),eve,evl=>exact Ok.QA eve (Ok.d rfl)
 obtain⟨q,h1,h2⟩:=key;refine⟨U7 s v,?_,rfl⟩;show stM s v=_;unfold stM;rw[h1,<-h2];cases q<;>rfl
def Yg(side:Int)(sec bdg fr rn ck:ze)(ps:List ze)(now:Int):Q3:=⟨side,1,now,sec,bdg,fr,rn,ck,ps,0,zg,⟨zg,zg,zg⟩,zg,[],pP,0⟩
def SI(side:Int)(sec bdg fr rn ck:ze)(ps:List ze)(now:Int):Q3×Int:=
 bif QZ (Yg side sec bdg fr rn ck ps now) then bif decide ((Zm bdg).fJ=xS sec Jz) then (Yg side sec bdg fr rn ck ps now,0) else (Fw,2) else (Fw,2)
theorem kI(side:Int)(sec bdg fr rn ck:ze)(ps:List ze)(now:Int)(h:Sm (Yg side sec bdg fr rn ck ps now)):Qy (s30 side sec bdg fr rn ck ps now) (λr=>r=SI side sec bdg fr rn ck ps now):=by
 show Ok (g30 side sec bdg fr rn ck ps now) _;unfold g30 SI;refine Ok.c (Qy.o (NV ps (by have:=h.pr;show ps.length<=_;exact Nat.le_trans this (by decide)))) λ_ _=>Ok.c FW λr hr=>?_;subst hr;refine Ok.v (AF (Yg side sec bdg fr rn ck ps now) h) λr hr=>?_;subst hr;cases hv:QZ (Yg side sec bdg fr rn ck ps now) with
 | false=>exact Ok.t rfl (Ok.d rfl)
 | true=>
  have vf:=I7 hv;have ho:okB bdg=true:=vf.bd;refine Ok.f rfl (Ok.c (Dz bdg (by have:bdg.size<=86:=vf.bz;omega)) λr hr=>Ok.c (WV sec) λr2 hr2=>?_);rw[if_pos (show sec.size=32 from vf.sc)] at hr2;have hr:r.1=Zm bdg:=by rw[hr];unfold UQ;rw[ho];rfl
  subst hr2;rw[hr];generalize xS sec Jz=P;generalize (Zm bdg).fJ=K;refine Ok.n (R:=λc=>c=!decide (K=P)) (Ok.f rfl (Ok.d (by rw[Bool.eq_iff_iff];simp;exact⟨λh e=>h e.symm,λh e=>h e.symm⟩))) λc hc=>?_;subst hc;cases hk:decide (K=P) with
  | false=>exact Ok.t rfl (Ok.d rfl)
  | true=>exact Ok.f rfl (Ok.g (Ok.d rfl))
theorem kK(side:Int)(sec bdg fr rn ck:ze)(ps:List ze)(now:Int)(h:Sm (Yg side sec bdg fr rn ck ps now)):Qy (iI side sec bdg fr rn ck ps now) (λr=>r=SI side sec bdg fr rn ck ps now):=by
 show Ok (g31 side sec bdg fr rn ck ps now) _;unfold g31 SI;refine Ok.c Vo λr hr=>?_;subst hr;have hp:ps.length<=1000:=h.pr;refine Ok.app (show (0+ps.length) * 16<=140737488355328 by omega) (Ok.v (SW (Yg side sec bdg fr rn ck ps now) h) λr hr=>?_);subst hr;cases hv:QZ (Yg side sec bdg fr rn ck ps now) with
 | false=>exact Ok.t rfl (Ok.d rfl)
 | true=>
  have vf:=I7 hv;have ho:okB bdg=true:=vf.bd;refine Ok.f rfl (Ok.c (NR bdg) λr hr=>Ok.c AX λr2 hr2=>?_);subst hr2;have hr:r.1=Zm bdg:=by rw[hr];unfold UQ;rw[ho];rfl
  rw[hr];refine Ok.c (SU sec Jz (show sec.size=32 from vf.sc) Ku) λr hr=>?_;subst hr;generalize xS sec Jz=P;generalize (Zm bdg).fJ=K;cases hk:decide (K=P) with
  | false=>exact Ok.t rfl (Ok.d rfl)
  | true=>exact Ok.f rfl (Ok.g (Ok.d rfl))
end Go.Proofs.YtjdieimefebnfaaGreatDoor
namespace Go.Proofs.YtjdieimefebnfaaGreatDoor
open Go Go.EV Crv
theorem CI(f:Nat->Nat):∀n,Oz f (n+1) % 8=f 0 % 8
 | 0=>by show (0+f 0 * 256 ^ 0) % 8=_;grind
 | n+1=>by
  show (Oz f (n+1)+f (n+1) * 256 ^ (n+1)) % 8=_;have h:=CI f n;grind
theorem Qjt(k:ze):(2 ^ 254<=Yr (Db k)/\Yr (Db k) < 2 ^ 255)/\Yr (Db k) % 8=0:=by
 rw[Qy4];have e:Oz (qF k) 32=Oz (qF k) 31+qF k 31 * 256 ^ 31:=rfl;have h:=SV (xR k) 31;have h8:=CI (qF k) 31;have e0:qF k 0=on k 0 / 8 * 8:=rfl;have e1:qF k 31=on k 31 % 64+64:=rfl;grind
theorem xF(k:ze):¬Bo ∣ 2 * Hv (Crv.bits (Yr (Db k)) 255) 0:=by
 obtain⟨⟨h1,h2⟩,h3⟩:=Qjt k;rw[Dj,Nat.zero_mul,we,Nat.mod_eq_of_lt h2];generalize Yr (Db k)=n at *;intro hd;obtain⟨m,rfl⟩:∃m,n=8 * m:=⟨n / 8,by omega⟩;have hc:Nat.Coprime Bo 16:=by decide +kernel
 have hd2:Bo ∣ m:=hc.dvd_of_dvd_mul_left (by rwa [show 2 * (8 * m)=16 * m by omega] at hd);have hle:=Nat.le_of_dvd (by omega) hd2;grind [Bo]
theorem mC(n:Nat)(u:Fp):Jj 121665 u.val (Crv.bits n 255) 1 0 u.val 1=((mT Xp u (Crv.bits n 255) (1,0,u,1)).1.val,(mT Xp u (Crv.bits n 255) (1,0,u,1)).2.1.val):=by
 have e:=XX Xp u (Crv.bits n 255) (1,0,u,1);have hc:Xp.val=121665:=by decide +kernel
 have h1:(1:Fp).val=1:=by decide +kernel
 grind
theorem lO(u:Fp)(l:List Bool):(res Xp u l).val=(mT Xp u l (1,0,u,1)).1.val * Gu ((mT Xp u l (1,0,u,1)).2.1.val) % nP:=by
 unfold res;rw[SG,Gj]
theorem Qua(n u:Nat){x y:Nat}(hu:u < nP)(h:Jj 121665 u (Crv.bits n 255) 1 0 u 1=(x,y)):xN n u=x * Gu y % nP:=by
 grind [Nat.mod_eq_of_lt,xN]
theorem yU(n:Nat)(u:Fp):xN n u.val=(res Xp u (Crv.bits n 255)).val:=(Qua n u.val u.isLt (mC n u)).trans (lO u _).symm
theorem nG{n:Nat}(h:n < 2 ^ 255):Yr (OZ n)=n:=by
 have hf:∀i,M5 8 n 255 i < 256:=λi=>FV 8 n 255 i;have e:Yr (OZ n)=Oz (λj=>M5 8 n 255 j) 32:=Dk λi hi=>SY hf hi;rw[e];have key:∀k,Oz (λj=>M5 8 n 255 j) k=n % 256 ^ k:=λk=>by
  induction k with
  | zero=>exact(Nat.mod_one n).symm
  | succ k ih=>
   show Oz _ k+M5 8 n 255 k * 256 ^ k=_;rw[ih,Nat.pow_succ,Nat.mod_mul];unfold M5;rw[Nat.mod_eq_of_lt h,Nat.pow_mul];grind
 grind
theorem sD:nP < 2 ^ 255:=by decide +kernel
theorem Qux(n u:Nat):xN n u < 2 ^ 255:=Nat.lt_trans (Nat.mod_lt _ (by decide +kernel)) sD
theorem nL:Yr Jz=9:=by decide +kernel
theorem Qwh(a p:ze):Yr (xS a p)=xN (Yr (Db a)) (Yr p % 2 ^ 255):=by grind [nG,Qux,xS]
def N1(k:ze):ze:=xS k Jz
theorem Jq(k:ze):(N1 k).size=32:=ZI _ _
theorem Qy3(k:ze):Yr (N1 k)=(res Xp 9 (Crv.bits (Yr (Db k)) 255)).val:=by
 unfold N1;rw[Qwh,nL];exact yU _ 9
theorem yH(a b:ze):xN (Yr (Db a)) (Yr (N1 b) % 2 ^ 255)=(res Xp (res Xp 9 (Crv.bits (Yr (Db b)) 255)) (Crv.bits (Yr (Db a)) 255)).val:=by
 rw[Qy3,Nat.mod_eq_of_lt (Nat.lt_trans (Fin.isLt _) sD)];exact yU _ _
theorem rS(a b:ze):xS a (N1 b)=xS b (N1 a):=by
 grind [yH,dh9,xF,xS]
theorem Qen(a b:ze):xN (Yr (Db a)) (Yr (N1 b) % 2 ^ 255)≠0:=by
 grind [yH,dh9,xF,Fin.ext]
end Go.Proofs.YtjdieimefebnfaaGreatDoor
