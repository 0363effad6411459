/- The field of the curve: inverses; numbers of octets and octets of numbers. Plain lemmas on the guides. The field of the curve: numbers of octets, oct ..; no conditions. -/
import Derived.Test.YtjdieimefebnfaaGreatDoorR14
import Derived.Test.YtjdieimefebnfaaGreatDoorR11
import Derived.Test.YtjdieimefebnfaaGreatDoorR8
import Derived.Test.YtjdieimefebnfaaGreatDoorR10
import Derived.Test.YtjdieimefebnfaaGreatDoorR7
import Derived.KernelRfl
set_option linter.unusedVariables false
set_option linter.unusedSimpArgs false
set_option maxRecDepth 100000
namespace Go.Proofs.YtjdieimefebnfaaGreatDoor
open Go Go.EV Crv
theorem WS(b:Bool)(x a:Q4)(hx:Hx x)(ha:Hx a):Qy (PN b x a) (λr=>Hx r/\fN r=(if b then fN x * fN x % nP * fN a % nP else fN x * fN x % nP)):=by
 show Ok (Qyi b x a) _;grind [Ok.c,P7,Ok.e,Ok.d,Qyi]
theorem lL(a n:Nat):a ^ n % nP * (a ^ n % nP) % nP=a ^ (2 * n) % nP:=by rw[<-Nat.mul_mod,<-Nat.pow_add];congr 2;omega
theorem Nt(a n:Nat):a ^ n % nP * (a ^ n % nP) % nP * a % nP=a ^ (2 * n+1) % nP:=by rw[lL,Nat.pow_succ,Nat.mod_mul_mod]
theorem Fe:Hx ⟨1,0,0,0,0⟩:=by unfold Hx;decide
theorem uC:fN ⟨1,0,0,0,0⟩=1:=by decide +kernel
theorem Qzy(a:Q4)(ha:Hx a):Qy (tT a) (λr=>Hx r/\fN r=FG (fN a)):=by
 unfold tT;refine Qy.fn ?_;unfold Qm1;refine Ok.b (R:=λe=>Hx e/\∃n,n=2 ^ 250 - 1/\fN e=fN a ^ n % nP) (Ok.s 250 (by decide) (λk y=>Hx y.1/\(∃n,n=2 ^ k - 1/\fN y.1=fN a ^ n % nP)/\y.2=(k:Int)) ⟨Fe,⟨0,rfl,by rw[uC,Nat.pow_zero];rfl⟩,rfl⟩ (λk y hy hk=>?_) λy hy=>?_) λe he=>?_
 ·obtain⟨x,i⟩:=y;obtain⟨h1,⟨n,hn,h2⟩,rfl⟩:Hx x/\(∃n,n=2 ^ k - 1/\fN x=fN a ^ n % nP)/\i=(k:Int):=hy;refine Ok.t (by grind) (Ok.c (WS true x a h1 ha) λr hr=>Ok.d ⟨hr.1,⟨2 * n+1,?_,?_⟩,Z9 hk (by decide)⟩)
  ·grind
  ·rw[hr.2,if_pos rfl,h2,Nt]
 ·obtain⟨x,i⟩:=y;obtain⟨h1,h2,rfl⟩:Hx x/\(∃n,n=2 ^ 250 - 1/\fN x=fN a ^ n % nP)/\i=((250:Nat):Int):=hy;exact Ok.f rfl (Ok.d ⟨h1,h2⟩)
 ·obtain⟨h1,n,hn,h2⟩:=he;refine Ok.tt (Ok.c (WS false e a h1 ha) λr1 q1=>Ok.tt (Ok.c (WS true r1 a q1.1 ha) λr2 q2=>Ok.tt (Ok.c (WS false r2 a q2.1 ha) λr3 q3=>Ok.tt (Ok.c (WS true r3 a q3.1 ha) λr4 q4=>Ok.tt (Ok.c (WS true r4 a q4.1 ha) λr5 q5=>Ok.ff (Ok.d ⟨q5.1,?_⟩))))));have e1:fN r1=fN a ^ (2 * n) % nP:=by rw[q1.2,if_neg (by decide),h2,lL]
  have e2:fN r2=fN a ^ (2 * (2 * n)+1) % nP:=by rw[q2.2,if_pos rfl,e1,Nt]
  have e3:fN r3=fN a ^ (2 * (2 * (2 * n)+1)) % nP:=by rw[q3.2,if_neg (by decide),e2,lL]
  have e4:fN r4=fN a ^ (2 * (2 * (2 * (2 * n)+1))+1) % nP:=by rw[q4.2,if_pos rfl,e3,Nt]
  have e5:fN r5=fN a ^ (2 * (2 * (2 * (2 * (2 * n)+1))+1)+1) % nP:=by rw[q5.2,if_pos rfl,e4,Nt]
  have en:2 * (2 * (2 * (2 * (2 * n)+1))+1)+1=nP - 2:=by rw[hn];decide +kernel
  rw[e5,en];unfold FG;rw[OO _ _ _ _ (by decide +kernel),Nat.one_mul]
def M3(w N k j:Nat):Nat:=N % 2 ^ k / 2 ^ (w * j) % 2 ^ w
theorem OT(w N j:Nat):M3 w N 0 j=0:=by unfold M3;rw[Nat.pow_zero,Nat.mod_one,Nat.zero_div,Nat.zero_mod]
theorem FA(w N k j:Nat):M3 w N k j < 2 ^ w:=Nat.mod_lt _ (Nat.two_pow_pos _)
theorem mod_succ(N k:Nat):N % 2 ^ (k+1)=N % 2 ^ k+2 ^ k * (N / 2 ^ k % 2):=by rw[Nat.pow_succ,Nat.mod_mul]
theorem RM(N k:Nat):N / 2 ^ k % 2 < 2:=Nat.mod_lt _ (by decide)
theorem SA{w N k j r:Nat}(hk:k=w * j+r)(hr:r < w):N % 2 ^ k / 2 ^ (w * j) < 2 ^ r:=by
 simp_all [Nat.div_lt_iff_lt_mul,Nat.two_pow_pos,Nat.pow_add,Nat.add_comm,Nat.mod_lt]
theorem Cb{w N k j r:Nat}(hk:k=w * j+r)(hr:r < w):M3 w N k j < 2 ^ r/\M3 w N (k+1) j=M3 w N k j+N / 2 ^ k % 2 * 2 ^ r:=by
 have h1:=SA (N:=N) hk hr
 have h2:(2:Nat) ^ r * 2<=2 ^ w:=by rw[<-Nat.pow_succ];exact Nat.pow_le_pow_right (by decide) hr
 have hb:=RM N k
 have e0:M3 w N k j=N % 2 ^ k / 2 ^ (w * j):=Nat.mod_eq_of_lt (by omega);refine⟨by grind,?_⟩
 have key:∀b,2 ^ k * b=2 ^ (w * j) * (b * 2 ^ r):=(by grind)
 have e1:N % 2 ^ (k+1) / 2 ^ (w * j)=N % 2 ^ k / 2 ^ (w * j)+N / 2 ^ k % 2 * 2 ^ r:=by
  rw[mod_succ,key,Nat.add_mul_div_left _ _ (Nat.two_pow_pos _)]
 have l2:N % 2 ^ k / 2 ^ (w * j)+N / 2 ^ k % 2 * 2 ^ r < 2 ^ w:=by
  rcases wT (N / 2 ^ k % 2) 1 with h|h
  ·grind
  grind
 grind [Nat.mod_eq_of_lt,M3]
theorem Vd{w N k j q r:Nat}(hk:k=w * q+r)(hr:r < w)(hj:j≠q):M3 w N (k+1) j=M3 w N k j:=by
 unfold M3;rw[mod_succ];rcases wT j q with h|h
 ·have hw:w * j+w<=k:=by
   have:=Nat.mul_le_mul_left w (show j+1<=q from h);grind
  have e:2 ^ k * (N / 2 ^ k % 2)=2 ^ (w * j) * (2 ^ w * (2 ^ (k - (w * j+w)) * (N / 2 ^ k % 2))):=by
   rw[<-Nat.mul_assoc,<-Nat.mul_assoc,<-Nat.pow_add,<-Nat.pow_add,show w * j+w+(k - (w * j+w))=k by omega]
  rw[e,Nat.add_mul_div_left _ _ (Nat.two_pow_pos _),Nat.add_mul_mod_self_left]
 ·have hw:k+1<=w * j:=by
   have:=Nat.mul_le_mul_left w (show q+1<=j by omega);grind
  have l1:N % 2 ^ k < 2 ^ k:=Nat.mod_lt _ (Nat.two_pow_pos _)
  have l2:(2:Nat) ^ k * 2<=2 ^ (w * j):=by rw[<-Nat.pow_succ];simp_all [Nat.pow_le_pow_right]
  have hb:=RM N k
  have l3:N % 2 ^ k+2 ^ k * (N / 2 ^ k % 2) < 2 ^ (w * j):=by
   rcases wT (N / 2 ^ k % 2) 1 with h|h
   ·grind
   grind
  rw[Nat.div_eq_of_lt l3,Nat.div_eq_of_lt (by omega)]
theorem xL{w N q r:Nat}(hr:r < w):N / 2 ^ (w * q) % 2 ^ w / 2 ^ r % 2=N / 2 ^ (w * q+r) % 2:=by
 have e:(2:Nat) ^ w=2 ^ r * 2 ^ (w - r):=by rw[<-Nat.pow_add,show r+(w - r)=w by omega]
 rw[e,Nat.mod_mul_right_div_self,Nat.div_div_eq_div_mul,<-Nat.pow_add];have e2:(2:Nat) ^ (w - r)=2 * 2 ^ (w - r - 1):=by rw[wP,<-Nat.pow_succ];congr 1;omega
 simp_all
def II(f:Nat->Nat):Nat->Nat
 | 0=>0
 | n+1=>II f n+f n * 256 ^ n
theorem SO{f:Nat->Nat}(hf:∀i,f i < 256):∀n,II f n < 256 ^ n
 | 0=>Nat.one_pos
 | n+1=>by
  have h:=SO hf n
  have:=wL (256 ^ n) (show f n<=255 by have:=hf n;omega);grind [Nat.pow_succ,II]
theorem mA{f:Nat->Nat}(hf:∀i,f i < 256):∀{n i:Nat},i < n->II f n / 256 ^ i % 256=f i
 | n+1,i,h=>by
  show (II f n+f n * 256 ^ n) / 256 ^ i % 256=f i;rcases wT i n with h1|h1
  ·have e:f n * 256 ^ n=256 ^ i * (256 * (f n * 256 ^ (n - i - 1))):=by
    have:(256:Nat) ^ n=256 ^ i * (256 * 256 ^ (n - i - 1)):=by rw[<-Nat.mul_assoc,<-Nat.pow_succ,<-Nat.pow_add];congr 1;omega
    grind
   rw[e,Nat.add_mul_div_left _ _ (Nat.pow_pos (by decide)),Nat.add_mul_mod_self_left];exact mA hf h1
  ·obtain rfl:i=n:=by omega
   rw[wP,Nat.add_mul_div_left _ _ (Nat.pow_pos (by decide)),Nat.div_eq_of_lt (SO hf _),zY,Nat.mod_eq_of_lt (hf _)]
def on(s:ze)(i:Nat):Nat:=(s.data.getD i 0).toNat
theorem WU(s:ze)(i:Nat):QQ s (i:Int)=((on s i:Nat):Int):=by unfold QQ on;grind
theorem Ux(s:ze)(i:Nat):on s i < 256:=UInt8.toNat_lt _
def Yl(s:ze):Nat:=II (on s) 32
theorem Gl:∀c:Fin 256,∀k:Fin 8,U0 .u8 (Z3 .u8 ((c.val:Nat):Int) ((k.val:Nat):Int)) 1=((c.val / 2 ^ k.val % 2:Nat):Int):=by decide +kernel
theorem Qqf:∀k:Fin 8,∀x:Fin 256,∀b:Fin 2,x.val < 2 ^ k.val->Zo .u8 ((x.val:Nat):Int) (M8 .u8 ((b.val:Nat):Int) ((k.val:Nat):Int))=((x.val+b.val * 2 ^ k.val:Nat):Int):=by decide +kernel
theorem td(k n:Nat):Int.tdiv (k:Int) (n:Int)=((k / n:Nat):Int):=(Int.ofNat_tdiv k n).symm
theorem tm(k n:Nat):Int.tmod (k:Int) (n:Int)=((k % n:Nat):Int):=(Int.ofNat_tmod k n).symm
theorem td8(k:Nat)(h:k < 1000):Q0 (Int.tdiv (k:Int) 8)=((k / 8:Nat):Int):=by rw[show (8:Int)=((8:Nat):Int) from rfl,td,Z4 (by omega) (by omega)]
theorem tm8(k:Nat):Int.tmod (k:Int) 8=((k % 8:Nat):Int):=tm k 8
theorem Qh0(k:Nat)(h:k < 1000):Q0 (Int.tdiv (k:Int) 51)=((k / 51:Nat):Int):=by rw[show (51:Int)=((51:Nat):Int) from rfl,td,Z4 (by omega) (by omega)]
theorem Qut(k:Nat):Int.tmod (k:Int) 51=((k % 51:Nat):Int):=tm k 51
theorem Br(f:Nat->Nat)(hf:∀i,f i < 256){n k:Nat}(h:k / 8 < n):f (k / 8) / 2 ^ (k % 8) % 2=II f n / 2 ^ k % 2:=by
 rw[<-mA hf h,show (256:Nat) ^ (k / 8)=2 ^ (8 * (k / 8)) by rw[Nat.pow_mul],show (256:Nat)=2 ^ 8 from rfl,xL (Nat.mod_lt _ (by decide)),Nat.div_add_mod]
theorem Qql{x r:Nat}(hx:x < 2 ^ r)(hr:r < 51):Zo .u64 (x:Int) (M8 .u64 1 (r:Int))=((x+1 * 2 ^ r:Nat):Int):=by
 have h2:(2:Nat) ^ r * 2<=2 ^ 51:=by rw[<-Nat.pow_succ];exact Nat.pow_le_pow_right (by decide) hr
 rw[show M8 .u64 1 (r:Int)=_ from pN 1 r (by omega)];have e:(1:Int) * 2 ^ r % 18446744073709551616=((2 ^ r:Nat):Int):=by
  grind
 rw[e,Qw0 x (2 ^ r) (by omega) (by omega),Nat.or_comm];have k:=Nat.two_pow_add_eq_or_of_lt hx 1;grind
def AP(N k:Nat):Q4:=⟨(M3 51 N k 0:Nat),(M3 51 N k 1:Nat),(M3 51 N k 2:Nat),(M3 51 N k 3:Nat),(M3 51 N k 4:Nat)⟩
theorem SI(w N:Nat){k q:Nat}(hw:0 < w)(hq:k / w=q)(j:Nat):M3 w N (k+1) j=M3 w N k j+if j=q then N / 2 ^ k % 2 * 2 ^ (k % w) else 0:=by
 have hk:k=w * q+k % w:=by rw[<-hq,Nat.div_add_mod]
 by_cases h:j=q
 ·subst h;rw[if_pos rfl];exact(Cb hk (Nat.mod_lt _ hw)).2
 ·rw[if_neg h];exact Vd hk (Nat.mod_lt _ hw) h
theorem mE(w N:Nat){k q:Nat}(hw:0 < w)(hq:k / w=q):M3 w N k q < 2 ^ (k % w):=(Cb (by rw[<-hq,Nat.div_add_mod]) (Nat.mod_lt _ hw)).1
theorem Cp(N:Nat):Hx (AP N 255)/\fv (AP N 255)=((N % 2 ^ 255:Nat):Int):=by
 grind [Nat.mod_lt,AP,M3,Hx,fv,v5,Nat.reduceMul,Nat.reducePow]
theorem Qwu{N k:Nat}(h:N / 2 ^ k % 2=0):AP N (k+1)=AP N k:=by
 unfold AP;simp only[SI 51 N (k:=k) (q:=k / 51) (by decide) rfl,h];simp
theorem Qwj{N k:Nat}(h:N / 2 ^ k % 2=1)(q:Nat)(hq:k / 51=q) :
  (⟨if q=0 then Zo .u64 ((M3 51 N k 0:Nat):Int) (M8 .u64 1 ((k % 51:Nat):Int)) else (M3 51 N k 0:Nat),if q=1 then Zo .u64 ((M3 51 N k 1:Nat):Int) (M8 .u64 1 ((k % 51:Nat):Int)) else (M3 51 N k 1:Nat),
   if q=2 then Zo .u64 ((M3 51 N k 2:Nat):Int) (M8 .u64 1 ((k % 51:Nat):Int)) else (M3 51 N k 2:Nat),if q=3 then Zo .u64 ((M3 51 N k 3:Nat):Int) (M8 .u64 1 ((k % 51:Nat):Int)) else (M3 51 N k 3:Nat),
   if q=4 then Zo .u64 ((M3 51 N k 4:Nat):Int) (M8 .u64 1 ((k % 51:Nat):Int)) else (M3 51 N k 4:Nat)⟩:Q4)=AP N (k+1):=by
 have sb:=mE 51 N (k:=k) (q:=q) (by decide) hq
 have hr:k % 51 < 51:=Nat.mod_lt _ (by decide)
 have one:∀j,(if q=j then Zo .u64 ((M3 51 N k j:Nat):Int) (M8 .u64 1 ((k % 51:Nat):Int)) else ((M3 51 N k j:Nat):Int))=((M3 51 N (k+1) j:Nat):Int):=λj=>by
  rw[SI 51 N (k:=k) (q:=q) (by decide) hq j,h];by_cases e:q=j
  ·subst e;rw[if_pos rfl,if_pos rfl,Qql sb hr]
  grind
 rw[one 0,one 1,one 2,one 3,one 4];rfl
theorem Gi{x:Nat}(h:(((x:Nat):Int)==1)=true):x=1:=(by grind)
theorem IM{x:Nat}(hx:x < 2)(h:(((x:Nat):Int)==1)=false):x=0:=by
 grind
theorem lX(s:ze)(hs:s.size=32)(N:Nat)(hN:∀k,k < 255->on s (k / 8) / 2 ^ (k % 8) % 2=N / 2 ^ k % 2):Qy (oN s) (λr=>r=AP N 255):=by
 unfold oN;refine Qy.fn ?_;unfold Qm4;refine Ok.b (R:=λe=>e=AP N 255) (Ok.s 255 (by decide) (λk y=>y=(AP N k,(k:Int))) ?_ (λk y hy hk=>?_) λy hy=>?_) λe he=>Ok.d he
 ·grind [OT,AP]
 ·subst hy;refine Ok.t (by grind) ?_;have e1:U0 .u8 (Z3 .u8 (QQ s (Q0 (Int.tdiv (k:Int) 8))) (Int.tmod (k:Int) 8)) 1=((N / 2 ^ k % 2:Nat):Int):=by
   rw[td8 k (by omega),tm8,WU,Gl ⟨on s (k / 8),Ux _ _⟩ ⟨k % 8,Nat.mod_lt _ (by decide)⟩,<-hN k hk]
  have e2:=td8 k (by omega)
  have e3:=Qh0 k (by omega)
  have hb:=RM N k;refine Ok.k (by grind) (Ok.k (by grind) (Ok.e (λhc=>?_) λhc=>?_))
  ·have hc:(U0 .u8 (Z3 .u8 (QQ s (Q0 (Int.tdiv (k:Int) 8))) (Int.tmod (k:Int) 8)) 1==1)=true:=hc;rw[e1] at hc
   have h1:=Gi hc
   have hm:(decide ((0:Int)<=Int.tmod (k:Int) 51))=true:=by grind
   have hq5:k / 51=0\/k / 51=1\/k / 51=2\/k / 51=3\/k / 51=4:=by omega
   have ew:=Z9 hk (n:=255) (by decide)
   have et:=Qut k;rcases hq5 with h|h|h|h|h
   all_goals
    have hm1:=Qwj h1 _ h;rw[h] at e3;refine Ok.Ke (by grind) ?_;grind [Ok.k,Ok.d,Ok,Q0,Int.tdiv,AP]
  ·have hc:(U0 .u8 (Z3 .u8 (QQ s (Q0 (Int.tdiv (k:Int) 8))) (Int.tmod (k:Int) 8)) 1==1)=false:=hc;rw[e1] at hc;refine Ok.d ?_
   show (AP N k,Q0 ((k:Int)+1))=(AP N (k+1),((k+1:Nat):Int));rw[Z9 hk (by decide),Qwu (IM hb hc)]
 ·subst hy;exact Ok.f rfl (Ok.d rfl)
theorem gI(s:ze)(hs:s.size=32):Qy (oN s) (λr=>r=AP (Yl s) 255):=
 lX s hs (Yl s) λk hk=>Br (on s) (Ux s) (n:=32) (k:=k) (by omega)
def Oe(n:Nat):ze:=strOfNums (A9 λj=>((M3 8 n 255 j:Nat):Int))
theorem lK(f:Nat->Int)(q:Nat)(v:Int):((List.range 32).map f).set q v=(List.range 32).map λj=>if j=q then v else f j:=by
 refine List.ext_getElem? λi=>?_;grind
theorem tight(y:Q4)(hy:Hx y):∀x,x=sB y.a0 y.a1 y.a2 y.a3 y.a4->∀z,z=sB x.a0 x.a1 x.a2 x.a3 x.a4->(wide x.a0/\wide x.a1/\wide x.a2/\wide x.a3/\wide x.a4)/\(0<=z.a0/\z.a0 < 2251799813685248)/\(0<=z.a1/\z.a1 < 2251799813685248)/\(0<=z.a2/\z.a2 < 2251799813685248)/\(0<=z.a3/\z.a3 < 2251799813685248)/\(0<=z.a4/\z.a4 < 2251799813685248):=by
 obtain⟨a0,a1,a2,a3,a4⟩:=y;obtain⟨h0,h1,h2,h3,h4⟩:=hy;rintro _ rfl _ rfl;unfold sB;simp only at *
 omega
theorem NS{W:Nat}{y0 y1 y2 y3 y4:Int}(h0:0<=y0/\y0 < 2251799813685248)(h1:0<=y1/\y1 < 2251799813685248)(h2:0<=y2/\y2 < 2251799813685248)(h3:0<=y3/\y3 < 2251799813685248)(h4:0<=y4/\y4 < 2251799813685248)(hW:(W:Int)=v5 y0 y1 y2 y3 y4):AP W 255=⟨y0,y1,y2,y3,y4⟩:=by
 grind [Nat.mod_eq_of_lt,v5,AP,M3,Nat.reduceMul,Nat.reducePow]
theorem lM(z:Q4)(h0:0<=z.a0/\z.a0 < 2251799813685248)(h1:0<=z.a1/\z.a1 < 2251799813685248)(h2:0<=z.a2/\z.a2 < 2251799813685248)(h3:0<=z.a3/\z.a3 < 2251799813685248)(h4:0<=z.a4/\z.a4 < 2251799813685248) :
  (if 0 < (z.a4+(z.a3+(z.a2+(z.a1+(z.a0+19) / 2251799813685248) / 2251799813685248) / 2251799813685248) / 2251799813685248) / 2251799813685248 then
   (⟨(z.a0+19) % 2251799813685248,(z.a1+(z.a0+19) / 2251799813685248) % 2251799813685248,(z.a2+(z.a1+(z.a0+19) / 2251799813685248) / 2251799813685248) % 2251799813685248,(z.a3+(z.a2+(z.a1+(z.a0+19) / 2251799813685248) / 2251799813685248) / 2251799813685248) % 2251799813685248,(z.a4+(z.a3+(z.a2+(z.a1+(z.a0+19) / 2251799813685248) / 2251799813685248) / 2251799813685248) / 2251799813685248) % 2251799813685248⟩:Q4)
   else z)=AP (fN z) 255:=by
 obtain⟨a0,a1,a2,a3,a4⟩:=z;have hm:((fN ⟨a0,a1,a2,a3,a4⟩:Nat):Int)=v5 a0 a1 a2 a3 a4 % 57896044618658097711785492504343953926634992332820282019728792003956564819949:=Jr (v5 a0 a1 a2 a3 a4);generalize fN ⟨a0,a1,a2,a3,a4⟩=W at *
 dsimp only at h0 h1 h2 h3 h4 ⊢
 have key:∀a:Int,a=a / 2251799813685248 * 2251799813685248+a % 2251799813685248/\0<=a % 2251799813685248/\a % 2251799813685248 < 2251799813685248:=λa=>by omega
 have k0:=key (a0+19);generalize (a0+19) / 2251799813685248=u0 at *
 generalize (a0+19) % 2251799813685248=y0 at *
 have k1:=key (a1+u0);generalize (a1+u0) / 2251799813685248=u1 at *
 generalize (a1+u0) % 2251799813685248=y1 at *
 have k2:=key (a2+u1);generalize (a2+u1) / 2251799813685248=u2 at *
 generalize (a2+u1) % 2251799813685248=y2 at *
 have k3:=key (a3+u2);generalize (a3+u2) / 2251799813685248=u3 at *
 generalize (a3+u2) % 2251799813685248=y3 at *
 have k4:=key (a4+u3);generalize (a4+u3) / 2251799813685248=u4 at *
 generalize (a4+u3) % 2251799813685248=y4 at *
 clear key;have e:v5 a0 a1 a2 a3 a4+19=v5 y0 y1 y2 y3 y4+57896044618658097711785492504343953926634992332820282019728792003956564819968 * u4:=by unfold v5;omega
 have hV:0<=v5 a0 a1 a2 a3 a4/\v5 a0 a1 a2 a3 a4 < 57896044618658097711785492504343953926634992332820282019728792003956564819968:=by unfold v5;omega
 have hY:0<=v5 y0 y1 y2 y3 y4/\v5 y0 y1 y2 y3 y4 < 57896044618658097711785492504343953926634992332820282019728792003956564819968:=by unfold v5;omega
 by_cases h:0 < u4
 ·rw[if_pos h];grind [NS]
 ·rw[if_neg h];grind [NS]
theorem Qzz(a:Q4)(ha:Hx a):Qy (tC a) (λr=>r=Oe (fN a)):=by
 have ha':=ha;obtain⟨h0,h1,h2,h3,h4⟩:=ha';unfold tC;refine Qy.fn ?_;unfold Qm0;obtain⟨wx,z0,z1,z2,z3,z4⟩:=tight a ha _ rfl _ rfl;refine Ok.c (AM a.a0 a.a1 a.a2 a.a3 a.a4 ⟨by omega,by omega⟩ ⟨by omega,by omega⟩ ⟨by omega,by omega⟩ ⟨by omega,by omega⟩ ⟨by omega,by omega⟩) λx hx=>?_
 have ex:fN x=fN a:=by rw[hx,dV];rfl
 rw[<-hx] at wx z0 z1 z2 z3 z4;refine Ok.c (AM x.a0 x.a1 x.a2 x.a3 x.a4 wx.1 wx.2.1 wx.2.2.1 wx.2.2.2.1 wx.q) λz hz=>?_;have ez:fN z=fN a:=by rw[<-ex,hz,dV];rfl
 rw[<-hz] at z0 z1 z2 z3 z4;clear hx hz wx h0 h1 h2 h3 h4;refine Ok.tt (Ok.tt (Ok.tt (Ok.tt (Ok.tt (Ok.ff ?_)))));have hrest:=lM z z0 z1 z2 z3 z4;rw[ez] at hrest;rw[Int.add_zero,U2 (n:=z.a0+19) (by omega) (by omega),U2 (n:=z.a0+19) (by omega) (by omega),DJ (a:=z.a0+19) (by omega),DR (a:=z.a0+19) (by omega) (by omega)];have c0:0<=(z.a0+19) / 2251799813685248/\(z.a0+19) / 2251799813685248<=1:=by omega
 rw[U2 (n:=z.a1+(z.a0+19) / 2251799813685248) (by omega) (by omega),DJ (a:=z.a1+(z.a0+19) / 2251799813685248) (by omega),DR (a:=z.a1+(z.a0+19) / 2251799813685248) (by omega) (by omega)];have c1:0<=(z.a1+(z.a0+19) / 2251799813685248) / 2251799813685248/\(z.a1+(z.a0+19) / 2251799813685248) / 2251799813685248<=1:=by omega
 rw[U2 (n:=z.a2+(z.a1+(z.a0+19) / 2251799813685248) / 2251799813685248) (by omega) (by omega),DJ (a:=z.a2+(z.a1+(z.a0+19) / 2251799813685248) / 2251799813685248) (by omega),DR (a:=z.a2+(z.a1+(z.a0+19) / 2251799813685248) / 2251799813685248) (by omega) (by omega)];have c2:0<=(z.a2+(z.a1+(z.a0+19) / 2251799813685248) / 2251799813685248) / 2251799813685248/\(z.a2+(z.a1+(z.a0+19) / 2251799813685248) / 2251799813685248) / 2251799813685248<=1:=by omega
 rw[U2 (n:=z.a3+(z.a2+(z.a1+(z.a0+19) / 2251799813685248) / 2251799813685248) / 2251799813685248) (by omega) (by omega),DJ (a:=z.a3+(z.a2+(z.a1+(z.a0+19) / 2251799813685248) / 2251799813685248) / 2251799813685248) (by omega),DR (a:=z.a3+(z.a2+(z.a1+(z.a0+19) / 2251799813685248) / 2251799813685248) / 2251799813685248) (by omega) (by omega)];have c3:0<=(z.a3+(z.a2+(z.a1+(z.a0+19) / 2251799813685248) / 2251799813685248) / 2251799813685248) / 2251799813685248/\(z.a3+(z.a2+(z.a1+(z.a0+19) / 2251799813685248) / 2251799813685248) / 2251799813685248) / 2251799813685248<=1:=by omega
 rw[U2 (n:=z.a4+(z.a3+(z.a2+(z.a1+(z.a0+19) / 2251799813685248) / 2251799813685248) / 2251799813685248) / 2251799813685248) (by omega) (by omega),DJ (a:=z.a4+(z.a3+(z.a2+(z.a1+(z.a0+19) / 2251799813685248) / 2251799813685248) / 2251799813685248) / 2251799813685248) (by omega),DR (a:=z.a4+(z.a3+(z.a2+(z.a1+(z.a0+19) / 2251799813685248) / 2251799813685248) / 2251799813685248) / 2251799813685248) (by omega) (by omega)];refine Ok.b (R:=λe=>e=AP (fN a) 255) (Ok.e (λhc=>Ok.d ?_) λhc=>Ok.d ?_) λe he=>?_
 ·rw[<-hrest,if_pos (by simpa using hc)]
 ·rw[<-hrest,if_neg (by simpa using hc)]
 subst he;refine Ok.o rfl (Ok.b (R:=λe=>e=A9 λj=>((M3 8 (fN a) 255 j:Nat):Int)) ?_ λe he=>?_)
 rotate_left
 ·subst he;exact Ok.fact rfl (Ok.o rfl (Ok.d rfl))
 have hW:fN a < nP:=Qek a;generalize fN a=W at *
 clear hrest;refine Ok.s 255 (by decide) (λk y=>y=((List.range 32).map (λj=>((M3 8 W k j:Nat):Int)),(k:Int))) ?_ (λk y hy hk=>?_) λy hy=>?_
 ·simp only[OT];rfl
 ·subst hy;refine Ok.t (we (show (k:Int) < 255 by omega)) ?_;have hq8:k / 8 < 32:=by omega
  have Wf:((List.range 32).map (λj=>((M3 8 W k j:Nat):Int)))[0+k / 8]?=some ((M3 8 W k (k / 8):Nat):Int):=by
   rw[zY,wc,List.getElem?_range hq8];rfl
  have hr:k % 51 < 51:=Nat.mod_lt _ (by decide)
  have hr8:k % 8 < 8:=Nat.mod_lt _ (by decide)
  have hsb:=mE 8 W (k:=k) (q:=k / 8) (by decide) rfl
  have hs8:=FA 8 W k (k / 8)
  have hx:=SI 8 W (k:=k) (q:=k / 8) (by decide) rfl
  have hbit:∀q,k / 51=q->W % 2 ^ 255 / 2 ^ (51 * q) % 2 ^ 51 / 2 ^ (k % 51) % 2=W / 2 ^ k % 2:=λq hq=>by
   rw[xL hr,<-hq,Nat.div_add_mod,Nat.mod_eq_of_lt (Nat.lt_trans hW (by decide +kernel))]
  have hb2:=RM W k
  have fin:∀x:Int,x=((W / 2 ^ k % 2:Nat):Int)->(((List.range 32).map (λj=>((M3 8 W k j:Nat):Int))).set (0+k / 8) (Zo .u8 ((M3 8 W k (k / 8):Nat):Int) (M8 .u8 (Qk x) ((k % 8:Nat):Int))),Q0 ((k:Int)+1))=((List.range 32).map (λj=>((M3 8 W (k+1) j:Nat):Int)),((k+1:Nat):Int)):=λx hx'=>by
   subst hx';have e1:Qk ((W / 2 ^ k % 2:Nat):Int)=((W / 2 ^ k % 2:Nat):Int):=by show IntKind.u8.wrap _=_;rw[IntKind.wrap_u8];omega
   rw[Z9 hk (by decide),e1,Qqf ⟨k % 8,hr8⟩ ⟨M3 8 W k (k / 8),hs8⟩ ⟨W / 2 ^ k % 2,hb2⟩ hsb,zY,lK];congr 1;refine wD λj _=>?_;rw[hx j];by_cases e:j=k / 8
   ·subst e;rw[if_pos rfl,if_pos rfl]
   ·rw[if_neg e,if_neg e,Nat.add_zero]
  have hq5:k / 51=0\/k / 51=1\/k / 51=2\/k / 51=3\/k / 51=4:=by omega
  have hlm:∀q,q < 5->U0 .u64 (Z3 .u64 ((W % 2 ^ 255 / 2 ^ (51 * q) % 2 ^ 51:Nat):Int) ((k % 51:Nat):Int)) 1=((W % 2 ^ 255 / 2 ^ (51 * q) % 2 ^ 51 / 2 ^ (k % 51) % 2:Nat):Int):=λq _=>by
   have hl:W % 2 ^ 255 / 2 ^ (51 * q) % 2 ^ 51 < 2 ^ 51:=Nat.mod_lt _ (by decide);generalize W % 2 ^ 255 / 2 ^ (51 * q) % 2 ^ 51=x at *
   rw[show Z3 .u64 (x:Int) ((k % 51:Nat):Int)=_ from jJ (by omega) _ (by omega)];have e:(x:Int) / 2 ^ (k % 51)=((x / 2 ^ (k % 51):Nat):Int):=by rw[Int.natCast_ediv,Int.natCast_pow];rfl
   have hle:=Nat.div_le_self x (2 ^ (k % 51));rw[e];generalize x / 2 ^ (k % 51)=d at *
   rw[Qoy (by omega) (by omega)];omega
  simp only[td8 k (by omega),Qh0 k (by omega),tm8,Qut,zR];refine Ok.k (by simp;omega) (Ok.r rfl Wf ?_);rcases hq5 with h|h|h|h|h
  all_goals
   have hb:=hbit _ h;rw[h];refine Ok.Ke (by decide) (Ok.k (by simp;omega) (Ok.k (by simp;omega) (Ok.k (by simp;omega) (Ok.r rfl Wf (Ok.re (Ok.d (fin _ ?_)))))));exact(hlm _ (by decide)).trans (congrArg Nat.cast hb)
 ·subst hy;exact Ok.f rfl (Ok.d rfl)
theorem Pc{f g:Nat->Int}(h:∀i,i < 32->f i=g i):A9 f=A9 g:=by
 refine List.ext_getElem? λi=>?_;simp_all [YF,if_pos,if_neg]
theorem Gg{s:ze}{k:Nat}(h:k < s.size):(Q3 s)[k]?=some (QQ s (k:Int)):=by
 simp_all [wc,zR,Array.getElem?_toList,wm,wB,Q3,QQ]
theorem kS{s:ze}(hs:s.size=32):Q3 s=A9 (Zm s):=by
 refine List.ext_getElem? λi=>?_;rw[YF];by_cases hi:i < 32
 ·rw[if_pos hi,Gg (by omega)];rfl
 simp_all [if_neg,qh,U1]
theorem Sr{f:Nat->Nat}(hf:∀i,f i < 256){i:Nat}(hi:i < 32):on (strOfNums (A9 λj=>((f j:Nat):Int))) i=f i:=by
 have hl:Q3 (strOfNums (A9 λj=>((f j:Nat):Int)))=A9 λj=>((f j:Nat):Int):=G9 λc hc=>by
  obtain⟨j,hj⟩:=List.getElem?_of_mem hc;rw[YF] at hj;grind
 have hsz:(strOfNums (A9 λj=>((f j:Nat):Int))).size=32:=E5 _
 have e:=Gg (s:=strOfNums (A9 λj=>((f j:Nat):Int))) (k:=i) (by omega);rw[hl,YF,if_pos hi,WU] at e;grind
theorem ET{f g:Nat->Nat}:∀{n:Nat},(∀i,i < n->f i=g i)->II f n=II g n
 | 0,_=>rfl
 | n+1,h=>by
  show II f n+f n * 256 ^ n=II g n+g n * 256 ^ n;rw[ET λi hi=>h i (by omega),h n (by omega)]
def qY(s:ze)(i:Nat):Nat:=if i=0 then on s 0 / 8 * 8 else if i=31 then on s 31 % 64+64 else on s i
def Dx(s:ze):ze:=strOfNums (A9 λi=>((qY s i:Nat):Int))
theorem xD(s:ze)(i:Nat):qY s i < 256:=by
 grind [Ux,qY]
theorem Rc(s:ze):(Dx s).size=32:=E5 _
theorem Qzv(s:ze):Yl (Dx s)=II (qY s) 32:=ET λ_ hi=>Sr (xD s) hi
theorem xE:∀c:Fin 256,U0 .u8 ((c.val:Nat):Int) 248=((c.val / 8 * 8:Nat):Int)/\Zo .u8 (U0 .u8 ((c.val:Nat):Int) 127) 64=((c.val % 64+64:Nat):Int):=by decide +kernel
theorem Vu(s:ze)(hs:s.size=32):Qy (tV s) (λr=>r=Dx s):=by
 unfold tV;refine Qy.fn ?_;unfold Qm3;refine Ok.fact (kS hs) (Ok.o rfl (Ok.o (r:=()) (by show (bif _ then _ else _)=_;rw[U1,hs];rfl) (Ok.o rfl (Ok.o rfl (Ok.o rfl (Ok.o rfl ?_))))));refine Ok.r rfl (x:=Zm s 0) rfl (Ok.o rfl (Ok.r rfl (x:=Zm s 0) rfl (Ok.re (Ok.o rfl ?_))));refine Ok.r rfl (x:=Zm s 31) rfl (Ok.o rfl (Ok.r rfl (x:=Zm s 31) rfl (Ok.re (Ok.o rfl (Ok.o rfl (Ok.d ?_))))));unfold Dx;congr 1;refine Pc λi hi=>?_;have e:∀i:Nat,Zm s i=((on s i:Nat):Int):=λi=>WU s i;show (bif i==31 then _ else bif i==0 then _ else Zm s i)=_;unfold qY;rw[e 31,e 0,e i,(xE ⟨on s 0,Ux s 0⟩).1,(xE ⟨on s 31,Ux s 31⟩).2];by_cases h0:i=0
 ·subst h0;rfl
 grind
def Oc(y:Y8):Prop:=Hx y.fR.Yc/\Hx y.fR.Qt/\Hx y.Qn.Yc/\Hx y.Qn.Qt/\Hx y.fu
theorem Qwm:Hx ⟨121665,0,0,0,0⟩:=by unfold Hx;decide
theorem Qib:fN ⟨121665,0,0,0,0⟩=121665:=by decide +kernel
theorem Cm(y:Y8)(hy:Oc y):Qy (Qhe y) (λr=>(Hx r.1/\Hx r.2.1/\Hx r.2.2.1/\Hx r.2.2.2)/\
  (∀k:Nat->Nat->Nat×Nat,Rg 121665 (fN y.fR.Yc) (fN y.fR.Qt) k=k (fN r.1) (fN r.2.1))/\
  ∀k:Nat->Nat->Nat×Nat,Ro (fN y.fu) (fN y.fR.Yc) (fN y.fR.Qt) (fN y.Qn.Yc) (fN y.Qn.Qt) k=k (fN r.2.2.1) (fN r.2.2.2)):=by
 obtain⟨h1,h2,h3,h4,h5⟩:=hy;show Ok (Qyc y) _;unfold Qyc;refine Ok.c (Fg _ _ h1 h2) λp hp=>Ok.c (Xb _ _ h1 h2) λm hm=>Ok.c (P7 _ _ hp.1 hp.1) λs hs=>Ok.c (P7 _ _ hm.1 hm.1) λt ht=>Ok.c (Xb _ _ hs.1 ht.1) λe he=>?_;refine Ok.c (Xb _ _ h3 h4) λf0 hf0=>Ok.c (P7 _ _ hf0.1 hp.1) λf hf=>Ok.c (Fg _ _ h3 h4) λg0 hg0=>Ok.c (P7 _ _ hg0.1 hm.1) λg hg=>?_;refine Ok.c (P7 _ _ hs.1 ht.1) λx hx=>Ok.c (P7 _ _ he.1 Qwm) λc hc=>Ok.c (Fg _ _ hs.1 hc.1) λd hd=>Ok.c (P7 _ _ he.1 hd.1) λz hz=>?_;refine Ok.c (Fg _ _ hf.1 hg.1) λa ha=>Ok.c (Xb _ _ hf.1 hg.1) λb hb=>Ok.c (P7 _ _ ha.1 ha.1) λa2 ha2=>Ok.c (P7 _ _ hb.1 hb.1) λb2 hb2=>Ok.c (P7 _ _ h5 hb2.1) λw hw=>Ok.d ⟨(by grind),λk=>?_,λk=>?_⟩
 ·simp only[Rg,force_eq];simp_all [Qib]
 ·simp only[Ro,force_eq];grind
theorem Qjn{s:ze}(hs:s.size=32){k:Nat}(hk:k < 255):(gDg s (k:Int)).run=some (Yl s / 2 ^ k % 2==1):=by
 have hb:=Br (on s) (Ux s) (n:=32) (k:=k) (by omega)
 have h:Ok (gDg s (k:Int)) (λr=>r=(Yl s / 2 ^ k % 2==1)):=by
  unfold gDg;rw[td8 k (by omega),tm8,WU,Gl ⟨on s (k / 8),Ux _ _⟩ ⟨k % 8,Nat.mod_lt _ (by decide)⟩];grind [Ok.k,Ok.d,Nat.mod_two_eq_zero_or_one,on,Yl]
 obtain⟨r,h1,h2⟩:=h;rw[h1,h2]
theorem jT(u:Q4)(y:Y8)(s:ze)(b:Bool)(hy:Oc y):∃r,(Rw u y s b).run=some r/\Oc r/\r.fu=y.fu/\∀l:List Bool,
  YC 121665 (fN y.fu) (b :: l) (fN y.fR.Yc) (fN y.fR.Qt) (fN y.Qn.Yc) (fN y.Qn.Qt)=YC 121665 (fN y.fu) l (fN r.fR.Yc) (fN r.fR.Qt) (fN r.Qn.Yc) (fN r.Qn.Qt):=by
 obtain⟨h1,h2,h3,h4,h5⟩:=hy;have h:Ok (Rw u y s b) (λr=>Oc r/\r.fu=y.fu/\∀l:List Bool,
   YC 121665 (fN y.fu) (b :: l) (fN y.fR.Yc) (fN y.fR.Qt) (fN y.Qn.Yc) (fN y.Qn.Qt)=YC 121665 (fN y.fu) l (fN r.fR.Yc) (fN r.fR.Qt) (fN r.Qn.Yc) (fN r.Qn.Qt)):=by
  unfold Rw;cases b with
  | true=>
   refine Ok.b (R:=λe=>e=(y.Qn.Yc,y.Qn.Qt,y.fR.Yc,y.fR.Qt)) (Ok.t rfl (Ok.d rfl)) λe he=>?_;subst he;refine Ok.c (Cm ⟨⟨y.Qn.Yc,y.Qn.Qt⟩,⟨y.fR.Yc,y.fR.Qt⟩,y.fu⟩ ⟨h3,h4,h1,h2,h5⟩) λr hr=>Ok.t rfl (Ok.d ⟨⟨hr.1.2.2.1,hr.1.2.2.2,hr.1.1,hr.1.2.1,h5⟩,rfl,λl=>?_⟩);show (bif true then _ else _)=_;grind
  | false=>
   refine Ok.b (R:=λe=>e=(y.fR.Yc,y.fR.Qt,y.Qn.Yc,y.Qn.Qt)) (Ok.f rfl (Ok.d rfl)) λe he=>?_;subst he;refine Ok.c (Cm ⟨⟨y.fR.Yc,y.fR.Qt⟩,⟨y.Qn.Yc,y.Qn.Qt⟩,y.fu⟩ ⟨h1,h2,h3,h4,h5⟩) λr hr=>Ok.f rfl (Ok.d ⟨⟨hr.1.1,hr.1.2.1,hr.1.2.2.1,hr.1.2.2.2,h5⟩,rfl,λl=>?_⟩);show (bif false then _ else _)=_;grind
 obtain⟨r,e,h⟩:=h;grind
theorem cF(u:Q4)(s:ze)(y:Y8):KS u s (y,((0:Nat):Int) - 1)=some (.inr y):=by
 unfold KS;grind
theorem Lf(N:Nat):Crv.bits N 0=[]:=rfl
theorem Lg(N n:Nat):Crv.bits N (n+1)=(N / 2 ^ n % 2==1) :: Crv.bits N n:=rfl
theorem NV(c u x y z w:Nat):YC c u [] x y z w=(x,y):=rfl
theorem nS{f:Y8×Int->Option ((Y8×Int)⊕Y8)}{N:Nat}(h0:∀y,f (y,((0:Nat):Int) - 1)=some (.inr y))
  (h1:∀n y,n < 255->Oc y->∃r,f (y,((n+1:Nat):Int) - 1)=some (.inl (r,(n:Int) - 1))/\Oc r/\r.fu=y.fu/\∀l:List Bool,
   YC 121665 (fN y.fu) ((N / 2 ^ n % 2==1) :: l) (fN y.fR.Yc) (fN y.fR.Qt) (fN y.Qn.Yc) (fN y.Qn.Qt)=YC 121665 (fN y.fu) l (fN r.fR.Yc) (fN r.fR.Qt) (fN r.Qn.Yc) (fN r.Qn.Qt)) (n:Nat) :
  ∀(m:Nat) (y:Y8),n<=255->n < m->Oc y->∃r,A8 f m (y,(n:Int) - 1)=some r/\Oc r/\
   YC 121665 (fN y.fu) (Crv.bits N n) (fN y.fR.Yc) (fN y.fR.Qt) (fN y.Qn.Yc) (fN y.Qn.Qt)=(fN r.fR.Yc,fN r.fR.Qt):=by
 induction n with
 | zero=>
  intro m y _ hm hy;obtain⟨m,rfl⟩:=Nat.exists_eq_succ_of_ne_zero (show m≠0 by omega);grind [Lf,NV,Nat.succ_eq_add_one,ZH]
 | succ n ih=>
  intro m y hn hm hy;obtain⟨m,rfl⟩:=Nat.exists_eq_succ_of_ne_zero (show m≠0 by omega);grind [Nat.succ_eq_add_one,ZH,Lg]
theorem oH(u:Q4){s:ze}{n:Nat}{y r:Y8}{b:Bool}(h0:(gDg s (n:Int)).run=some b)(h1:(Rw u y s b).run=some r)(hn:n < 255):KS u s (y,((n+1:Nat):Int) - 1)=some (.inl (r,(n:Int) - 1)):=by
 rw[show ((n+1:Nat):Int) - 1=(n:Int) by omega];unfold KS;simp only[h0,h1,show decide ((0:Int)<=(n:Int))=true by simp,cond_true];grind [Z4]
theorem nR(u:Q4){s:ze}(hs:s.size=32)(n:Nat):∀(m:Nat) (y:Y8),n<=255->n < m->Oc y->∃r,A8 (KS u s) m (y,(n:Int) - 1)=some r/\Oc r/\
  YC 121665 (fN y.fu) (Crv.bits (Yl s) n) (fN y.fR.Yc) (fN y.fR.Qt) (fN y.Qn.Yc) (fN y.Qn.Qt)=(fN r.fR.Yc,fN r.fR.Qt):=
 nS (cF u s) (λn y hn hy=>by
  obtain⟨r,h1,h2,h3,h4⟩:=jT u y s (Yl s / 2 ^ n % 2==1) hy;exact⟨r,oH u (Qjn hs hn) h1 hn,h2,h3,h4⟩) n
def xN(n u:Nat):Nat:=(YC 121665 (u % nP) (Crv.bits n 255) 1 0 (u % nP) 1).1 * FG (YC 121665 (u % nP) (Crv.bits n 255) 1 0 (u % nP) 1).2 % nP
def xS(k p:ze):ze:=Oe (xN (Yl (Dx k)) (Yl p % 2 ^ 255))
theorem ZI(k p:ze):(xS k p).size=32:=E5 _
section
attribute [local irreducible] xS
theorem qH:Hx ⟨0,0,0,0,0⟩:=by unfold Hx;decide
theorem iG:fN ⟨0,0,0,0,0⟩=0:=by decide +kernel
theorem Qzo(N:Nat):fN (AP N 255)=N % 2 ^ 255 % nP:=by
 unfold fN;rw[(Cp N).2];refine(NR rfl).trans ?_;rfl
theorem OR(k p:ze)(hk:k.size=32)(hp:p.size=32):Qy (Fu k p) (λr=>r=xS k p):=by
 unfold Fu;refine Qy.fn ?_;unfold eF;refine Ok.c (gI p hp) λu hu=>Ok.c (Vu k hk) λc hc=>Ok.c (R:=λ_=>True) ⟨(),rfl,trivial⟩ λ_ _=>Ok.g ?_;subst hu;subst hc;have hl:=(Cp (Yl p)).1;obtain⟨r,h1,h2,h3⟩:=nR (AP (Yl p) 255) (Rc k) 255 Yp ⟨⟨⟨1,0,0,0,0⟩,⟨0,0,0,0,0⟩⟩,⟨AP (Yl p) 255,⟨1,0,0,0,0⟩⟩,AP (Yl p) 255⟩ (by decide) (by unfold Yp;decide) ⟨Fe,qH,hl,Fe,hl⟩;refine Ok.IF (r:=r) h1 ?_;refine Ok.c (Qzy _ h2.2.1) λd hd=>Ok.c (P7 _ _ h2.1 hd.1) λt ht=>Ok.c (Qzz _ ht.1) λo ho=>Ok.d ?_;simp_all [uC,iG,Qzo,xS,xN]
def V4:ze:=strOfNums (A9 (U6 (λ_=>0) 0 9))
theorem Kq:V4.size=32:=E5 _
theorem Uf(k:ze):Qy (s67 k) (λr=>r=if k.size=32 then (xS k V4,0) else (zg,2)):=by
 unfold s67;refine Qy.fn ?_;unfold g67;refine Ok.e (λh=>Ok.d ?_) λh=>?_
 ·grind
 ·have h:(k.size:Int)=32:=by simpa using h
  have hk:k.size=32:=by omega
  refine Ok.o rfl (Ok.o rfl (Ok.o rfl (Ok.o rfl (Ok.c (OR k V4 hk Kq) λr hr=>Ok.d ?_))));grind
theorem GP{f:Nat->Nat}(hf:∀i,f i < 256){i:Nat}(hi:i < 32):Zm (strOfNums (A9 λj=>((f j:Nat):Int))) i=((f i:Nat):Int):=by
 show QQ _ (i:Int)=_;rw[WU,Sr hf hi]
theorem OV{n:Nat}(h:n < 2 ^ 255):(∀i,i < 32->Zm (Oe n) i=0)↔n=0:=by
 have hf:∀i,M3 8 n 255 i < 256:=λi=>FA 8 n 255 i;constructor
 ·intro hz;have hl:∀i,i < 32->M3 8 n 255 i=0:=λi hi=>by
   simp_all [GP,Oe]
  have key:∀j,j<=32->n % 256 ^ j=0:=λj=>by
   induction j with
   | zero=>grind
   | succ j ih=>
    intro hj;have h1:=ih (by omega);have h2:=hl j (by omega);simp_all [Nat.mod_eq_of_lt,Nat.pow_mul,Nat.pow_succ,Nat.mod_mul,M3]
  have:=key 32 (zN _);grind
 ·intro hz i hi;subst hz;unfold Oe;rw[GP (by grind) hi];grind [Nat.zero_mod,Nat.zero_div,M3]
theorem Vj(k p:ze)(hk:k.size=32)(hp:p.size=32):Qy (tU k p) (λr=>r=if xN (Yl (Dx k)) (Yl p % 2 ^ 255)=0 then (zg,2) else (xS k p,0)):=by
 unfold tU;refine Qy.fn ?_;unfold Qk6;refine Ok.n (R:=λc=>c=false) (Ok.f (by rw[hk];rfl) (Ok.d (by rw[hp];rfl))) λc hc=>?_;subst hc;refine Ok.f rfl (Ok.c (OR k p hk hp) λr hr=>?_);subst hr;refine Ok.fact (kS (ZI k p)) (Ok.o rfl (Ok.o (r:=()) (by show (bif _ then _ else _)=_;rw[U1,ZI];rfl) (Ok.o rfl ?_)));have hlt:xN (Yl (Dx k)) (Yl p % 2 ^ 255) < 2 ^ 255:=Nat.lt_trans (Nat.mod_lt _ (by decide +kernel)) (by decide +kernel:nP < 2 ^ 255);have hz:=OV hlt;have ez:∀i,Zm (xS k p) i=Zm (Oe (xN (Yl (Dx k)) (Yl p % 2 ^ 255))) i:=λi=>by unfold xS;rfl
 refine Ok.e (λh=>Ok.d ?_) λh=>Ok.d ?_
 ·have h:([0,1,2,3,4,5,6,7,8,9,10,11,12,13,14,15,16,17,18,19,20,21,22,23,24,25,26,27,28,29,30,31]:List Nat).all (λi=>Zm (xS k p) i==0)=true:=h;rw[if_pos (hz.1 λi hi=>?_)]
  have:=zJ.1 h i (by simp;omega);grind
 ·have h:([0,1,2,3,4,5,6,7,8,9,10,11,12,13,14,15,16,17,18,19,20,21,22,23,24,25,26,27,28,29,30,31]:List Nat).all (λi=>Zm (xS k p) i==0)=false:=h;refine(if_neg λh0=>?_).symm;simp_all
end
abbrev Out:=(Q2×List Z0)⊕(Bool×Int)
def Jm(k:Int)(b:ze):ze:=strOfNums [k % 256,(b.size:Int) / 65536 % 256,(b.size:Int) / 256 % 256,(b.size:Int) % 256]++b
theorem K6(k:Int)(b:ze):(Jm k b).size=4+b.size:=by unfold Jm;rw[ByteArray.size_append,E5];rfl
def My(st now:Int):Y0:=if st=1\/st=6 then oW else Aq now
def Um(s:Q2):ze:=xS s.fZ V4
theorem F4(s:Q2):(Um s).size=32:=ZI _ _
def MZ:ze:=strOfNums (List.replicate 32 0)
def nY:ze:=bs [116,97,110,110,111,121,32,109,97,115,116,101,114]
def Ks:ze:=bs [99,108,105,101,110,116]
def DC:ze:=bs [115,101,114,118,101,114]
def FM(a b c d:ze):ze:=Rl (a++b) (c++d) nY
def O7(m side s:ze):ze:=ZU (Rl m zg side) (YN s)
theorem X2(m side s:ze):(O7 m side s).size=32:=B5 _ _
def MX(s:Q2)(st k:Int)(b:ze):Q2:={ s with fo:=st,fm:=s.fm+1,fM:=[⟨k,s.fm,b⟩],fy:=My st s.fk }
def Yt(s:Q2)(e:Int):Q2:={ s with fo:=7,fD:=zg,fj:=⟨zg,zg,zg⟩,fF:=zg,fM:=[],fy:=oW,ga:=e }
def KR(s:Q2):Out:=bif s.fq==1&&s.fo==1 then .inl (MX s 2 1 (s.fA++Um s),[⟨1,s.fm,s.fA++Um s⟩]) else .inr (false,8)
def ZQ(s:Q2)(b:ze):Out:=
 if b.size≠32 then .inr (false,5) else if ¬s.fm < 7 then .inr (false,3) else
 .inl ({ MX s 3 1 (s.fA++Um s++b) with fD:=Jm 1 (s.fA++Um s++b) },[⟨1,s.fm,s.fA++Um s++b⟩])
def WW(s:Q2)(b:ze):ze:=s.fD++Jm 3 b
def Dr(s:Q2)(b:ze):ze:=FM (xS s.fZ (QI (b.extract 64 b.size)).fH) (xS s.gc (b.extract 32 64)) s.fA (b.extract 0 32)
def Hd(s:Q2)(b:ze):ze:=O7 (Dr s b) Ks (WW s b++s.fh)++s.fh
def X5(s:Q2)(b:ze):Out:=
 if ¬64 < b.size then .inr (false,5) else if okB (b.extract 64 b.size)=false then .inr (false,5) else
 if T8 (QI (b.extract 64 b.size)) s.fJ s.fk≠0 then .inr (true,T8 (QI (b.extract 64 b.size)) s.fJ s.fk) else
 if xS s.fZ (QI (b.extract 64 b.size)).fH=MZ\/xS s.gc (b.extract 32 64)=MZ then .inr (true,2) else
 .inl ({ MX s 5 4 (Hd s b) with fj:=⟨b.extract 0 32,b.extract 32 64,b.extract 64 b.size⟩,fF:=Dr s b,fD:=WW s b++Jm 4 (Hd s b) },[⟨4,s.fm,Hd s b⟩])
def JQ(s:Q2)(b:ze):Out:=
 if b.size≠32 then .inr (false,5) else if b≠O7 s.fF DC s.fD then .inr (true,9) else
 .inl ({ s with fD:=s.fD++Jm 5 b,fo:=6,fM:=[],fy:=oW },[])
def Dj(s:Q2)(b:ze):ze:=s.fD++Jm 1 b
def HZ(s:Q2):ze:=s.fA++Um s++s.fh
def R3(s:Q2)(f b:ze):Out:=
 if b.size≠64/\b.size≠96 then .inr (false,5) else
 if b.extract 64 b.size≠ZU s.gb (f++b.extract 0 64) then (if ¬s.fm < 6 then .inr (false,3) else .inl (MX s 1 2 (ZU s.gb (f++b.extract 0 64)),[⟨2,s.fm,ZU s.gb (f++b.extract 0 64)⟩])) else
 .inl ({ MX s 4 3 (HZ s) with fj:=⟨b.extract 0 32,b.extract 32 64,zg⟩,fD:=Dj s b++Jm 3 (HZ s) },[⟨3,s.fm,HZ s⟩])
def Kn(s:Q2)(b:ze):ze:=FM (xS s.gc s.fj.fQ) (xS s.fZ (QI (b.extract 32 b.size)).fH) s.fj.fA s.fA
def Me(s:Q2)(b:ze):ze:=s.fD++Jm 4 b
def Hb(s:Q2)(b:ze):ze:=O7 (Kn s b) DC (Me s b)
def F8(s:Q2)(b:ze):Out:=
 if ¬32 < b.size then .inr (false,5) else if okB (b.extract 32 b.size)=false then .inr (false,5) else
 if T8 (QI (b.extract 32 b.size)) s.fJ s.fk≠0 then .inr (true,T8 (QI (b.extract 32 b.size)) s.fJ s.fk) else
 if xS s.gc s.fj.fQ=MZ\/xS s.fZ (QI (b.extract 32 b.size)).fH=MZ then .inr (true,2) else
 if b.extract 0 32≠O7 (Kn s b) Ks (s.fD++b.extract 32 b.size) then .inr (true,9) else
 .inl ({ MX s 6 5 (Hb s b) with fj:=⟨s.fj.fA,s.fj.fQ,b.extract 32 b.size⟩,fF:=Kn s b,fD:=Me s b++Jm 5 (Hb s b) },[⟨5,s.fm,Hb s b⟩])
def H5(s:Q2)(f:ze)(n:Z0):Out:=
 if s.fq=1/\(s.fo=2\/s.fo=3)/\n.fw=2 then ZQ s n.fI else
 if s.fq=1/\s.fo=3/\n.fw=3 then X5 s n.fI else
 if s.fq=1/\s.fo=5/\n.fw=5 then JQ s n.fI else
 if s.fq=2/\s.fo=1/\n.fw=1 then R3 s f n.fI else
 if s.fq=2/\s.fo=4/\n.fw=4 then F8 s n.fI else .inr (false,8)
def XB(s:Q2):Out:=bif !(Hj s.fy s.fk).1 then .inl (s,[]) else bif (GH s.fy s.fk).2 != 0 then .inr (true,6) else .inl ({ s with fy:=(GH s.fy s.fk).1 },s.fM)
def HY(s:Q2)(v:Q6):Out:=
 if v.fw=1 then KR s else if v.fw=2 then H5 s v.fC v.fO else if v.fw=3 then XB s else .inl (s,bif s.fq==2 then s.fM else [])
def dM(s:Q2)(v:Q6):Bool:=decide (1<=v.fw)&&(decide (v.fw<=4)&&(decide (s.fk<=v.fk)&&(decide (v.fk<=1099511627776)&&(decide ((v.fC.size:Int)<=64)&&(v.fw != 2 || B3 v.fO)))))
def Oi(s:Q2):Out->Q2×List Z0×Int
 | .inl r=>(r.1,r.2,0)
 | .inr (true,e)=>(Yt s e,[],0)
 | .inr (false,e)=>(PA,[],e)
def U3(s:Q2)(v:Q6):Q2×List Z0×Int:=
 bif QZ s then bif dM s v then Oi { s with fk:=v.fk } (HY { s with fk:=v.fk } v) else (PA,[],2) else (PA,[],200)
theorem LU(k p:ze):xS k p=MZ↔xN (Yl (Dx k)) (Yl p % 2 ^ 255)=0:=by
 have hlt:xN (Yl (Dx k)) (Yl p % 2 ^ 255) < 2 ^ 255:=Nat.lt_trans (Nat.mod_lt _ (by decide +kernel)) (by decide +kernel:nP < 2 ^ 255);rw[<-OV hlt]
 have hz:(xS k p).size=MZ.size:=by rw[ZI];rfl
 have z0:∀i:Nat,i < 32->QQ MZ (i:Int)=0:=λi hi=>by
  have:((List.range 32).all λi=>QQ MZ ((i:Nat):Int)==0)=true:=by decide
  grind
 constructor
 ·intro h i hi;show QQ (xS k p) (i:Int)=0;grind
 ·intro h;refine Gf hz λi hi=>?_;have hi:i < 32:=by rwa [ZI] at hi
  rw[z0 i hi];exact h i hi
theorem Na(s:Q2)(h:Y7.any (F1 s)=true):0<=s.fm/\s.fm<=8:=by
 obtain⟨x,hx,h1⟩:=List.any_eq_true.1 h;have hb:(Y7.all λx=>decide (0<=x.ZK/\x.Ur<=8))=true:=by decide
 have hb:=zJ.1 hb x hx;unfold F1 at h1;grind
structure Vf(s:Q2):Prop where
 nw:V0 s.fk=true
 sc:s.gc.size=32
 fr:s.fZ.size=32
 rn:s.fA.size=32
 ck:s.gb.size<=32
 bd:okB s.fh=true
 bz:s.fh.size<=86
 pl:s.fJ.length<=8
 ps:∀p,p∈s.fJ->p.size=103
 sd:0<=s.fm/\s.fm<=8
 td:s.fD.size<=412
 tm:Zb s.fy=true
 pb:s.fj.fh.size<=86
 pp:s.fj.fQ.size<=32/\s.fj.fA.size<=32
 ma:s.fF.size<=32
 ll:s.fM.length<=1
 lk:s.fq=2->s.fo=4->s.fj.fQ.size=32
theorem T0{s:ze}(h:okB s=true):55<=s.size/\s.size<=86:=by
 unfold okB at h;simp only[zG,zI] at h;obtain⟨h1,h2,h3,h4⟩:=h;obtain⟨z1,z2⟩:=S6 (N6 h4).1;grind [ByteArray.size_extract,QI,Hr]
theorem MB{s:ze}(h:okB s=true):(QI s).fH.size=32/\G1 (QI s)=true:=by
 simp_all [zG,zI,N6,okB]
theorem Gq{s:ze}(h:HH s=true):s.size=0:=by
 simp_all [zI,HH]
theorem YA{s:ze}(h:ZA s=true):s.size=32:=by grind [ZA]
theorem G4{s:Q2}(h:QZ s=true):Vf s:=by
 unfold QZ Re at h;simp only[zG] at h;obtain⟨⟨h1,h2,h3,h4,h5,h6,h7,h8,h9⟩,h10⟩:=h;have sd:=Na s h10;obtain⟨x,hx,hl⟩:=List.any_eq_true.1 h10;have hb:(Y7.all λx=>decide (0<=x.Jz/\x.Jz<=240/\(x.QS=0\/x.QS=1\/x.QS=2)/\(x.Jb=2/\x.Yf=4->x.QS=1)))=true:=by decide
 have hb:=zJ.1 hb x hx;rw[zI] at hb;unfold F1 at hl;simp only[zG,beq_iff_eq,zI] at hl;obtain⟨l1,l2,l3,l4,l5,l6,l7,l8⟩:=hl
 have bz:=T0 h7;unfold Mm at h6;simp only[zG,zI,zJ] at h6
 have pk:s.fj.fh.size<=86/\s.fj.fQ.size<=32/\s.fj.fA.size<=32/\s.fF.size<=32/\(x.QS=1->s.fj.fQ.size=32):=by
  unfold P1 at l7;rcases hb.2.2.1 with hk|hk|hk
  ·simp_all [if_true,zG,Gq]
  ·simp_all [if_true,if_false,zG,YA,Gq]
  simp_all [if_false,zG,YA,T0]
 refine⟨h1,YA h2,YA h3,YA h4,?_,h7,bz.2,h6.1,λp hp=>?_,sd,?_,h8,pk.1,⟨pk.2.1,pk.2.2.1⟩,pk.2.2.2.1,?_,(by grind)⟩
 ·grind [YA,Gq,UQ]
 ·simp_all [zG,zI,YP]
 ·grind [Uj]
 ·unfold V6 at l8;grind
theorem Vf.sm{s:Q2}(h:Vf s):Sm s:=⟨by have:=h.bz;omega,by have:=h.pb;omega,by have:=h.td;omega,by have:=h.rn;omega,by have:=h.pl;omega,λp hp=>by have:=h.ps p hp;omega,by have:=h.ll;omega⟩
end Go.Proofs.YtjdieimefebnfaaGreatDoor
namespace Go.Proofs.YtjdieimefebnfaaGreatDoor
open Go Go.EV
theorem Iz{s:Q2}(h:Y7.any (F1 s)=true):∃x,x∈Y7/\s.fq=x.Jb/\s.fo=x.Yf/\x.ZK<=s.fm/\s.fm<=x.Ur/\(s.fD.size:Int)=Uj s x/\x.UB=decide (0<=s.fy.fE)/\P1 s x.QS=true/\V6 s x.KW=true:=by
 obtain⟨x,hx,hl⟩:=List.any_eq_true.1 h;unfold F1 at hl;simp only[zG,beq_iff_eq,zI] at hl;exact⟨x,hx,hl⟩
theorem F0{s:Q2}(x:H6)(hx:x∈Y7)(h:s.fq=x.Jb/\s.fo=x.Yf/\x.ZK<=s.fm/\s.fm<=x.Ur/\(s.fD.size:Int)=Uj s x/\x.UB=decide (0<=s.fy.fE)/\P1 s x.QS=true/\V6 s x.KW=true):Y7.any (F1 s)=true:=by
 refine List.any_eq_true.2 ⟨x,hx,?_⟩;unfold F1;simp only[zG,beq_iff_eq,zI];exact h
theorem C2{s:Q2}(h:Re s=true)(h2:Y7.any (F1 s)=true):QZ s=true:=by
 unfold QZ;rw[h,h2];rfl
theorem P5{s:Q2}(h:QZ s=true):Re s=true/\Y7.any (F1 s)=true:=by
 unfold QZ at h;simpa using h
structure Fx(s:Q2):Prop where
 nw:V0 s.fk=true
 sc:ZA s.gc=true
 fr:ZA s.fZ=true
 rn:ZA s.fA=true
 ck:UQ s=true
 pr:Mm s=true
 bd:okB s.fh=true
 tm:Zb s.fy=true
 wy:DP s=true
theorem M5(s:Q2):Re s=true↔Fx s:=by
 unfold Re;simp only[zG];exact⟨λ⟨a,b,c,d,e,f,g,h,i⟩=>⟨a,b,c,d,e,f,g,h,i⟩,λ⟨a,b,c,d,e,f,g,h,i⟩=>⟨a,b,c,d,e,f,g,h,i⟩⟩
theorem P8{n:Int}:V0 n=true↔0<=n/\n<=1099511627776:=by unfold V0;simp
theorem LL:Zb oW=true:=by rfl
theorem PZ{n:Int}(h:0<=n):Zb (Aq n)=true:=by
 unfold Zb Aq ZG;have:((n+400:Int)==-1)=false:=by simp;omega
 simp only[this,cond_false];simp;omega
theorem oE{s:Q2}(h:QZ s=true){n:Int}(hn:V0 n=true):QZ { s with fk:=n }=true:=by
 obtain⟨h1,h2⟩:=P5 h;have f:=(M5 s).1 h1;exact C2 ((M5 _).2 ⟨hn,f.sc,f.fr,f.rn,f.ck,f.pr,f.bd,f.tm,f.wy⟩) h2
theorem qR{s t:Q2}(h:DP s=true)(hs:s.fo≠7)(ht:t.fo≠7)(e:t.ga=s.ga):DP t=true:=by
 unfold DP at *
 rw[if_neg hs] at h;rw[if_neg ht,e];exact h
theorem CD{s:ze}(h:HH s=true):s=zg:=by unfold HH at h;simpa using h
theorem JJ{s:ze}(h:s.size=32):ZA s=true:=by unfold ZA;simpa using h
theorem Ku{s:Q2}{k q:Int}{b:ze}(hl:s.fM=[⟨k,q,b⟩])(hk:1<=k/\k<=5)(hb:b.size<=4000)(hq:0<=q/\q<=8)(hs:s.fm=q+1):V6 s k=true:=by
 unfold V6 B3;rw[if_neg (by omega),hl,hs];have:Q0 (q+1 - 1)=q:=by rw[Z4 (by omega) (by omega)];omega
 simp only[this,zG,zI,beq_iff_eq];exact⟨by omega,trivial,trivial⟩
theorem Wo{s:Q2}(h:s.fM=[]):V6 s 0=true:=by unfold V6;rw[if_pos rfl,h];rfl
theorem MG{s:Q2}(h:s.fj=⟨zg,zg,zg⟩)(hm:s.fF=zg):P1 s 0=true:=by
 unfold P1;rw[if_pos rfl,h,hm];decide
theorem OF{s:Q2}(h:P1 s 0=true):(s.fj.fA=zg/\s.fj.fQ=zg/\s.fj.fh=zg)/\s.fF=zg:=by
 unfold P1 at h;rw[if_pos rfl] at h;simp only[zG] at h;exact⟨⟨CD h.1,CD h.2.1,CD h.2.2.1⟩,CD h.2.2.2⟩
theorem RP{s:Q2}(f:Fx s){b:Z6}(hb:G1 b=true):T8 b s.fJ s.fk=0\/T8 b s.fJ s.fk=4\/T8 b s.fJ s.fk=10:=by
 have hp:=f.pr;unfold Mm at hp;simp only[zG,zI] at hp
 have hn:=P8.1 f.nw
 have h1:(s.fJ.any λx=>!YP x)=false:=by
  rw[List.any_eq_false];intro x hx;have:=zJ.1 hp.2 x hx;simp[this]
 unfold T8 Vm;rw[hb,h1];have h2:decide (8 < s.fJ.length)=false:=by simp;omega
 rw[h2];have h3:(decide (s.fk < 0) || decide (1099511627776 < s.fk))=false:=by simp;omega
 rw[h3];simp only[Bool.not_true,cond_false];cases (s.fJ.any λx=>decide (W9 (YN (K2 b))=x))<;>cases (decide (s.fk < b.fC) || decide (b.fB < s.fk))<;>simp
theorem Jy{s:Q2}(h:QZ s=true){e:Int}(he:e=2\/e=4\/e=6\/e=9\/e=10):QZ (Yt s e)=true:=by
 obtain⟨h1,h2⟩:=P5 h;have f:=(M5 s).1 h1;have sd:=Na s h2;obtain⟨x,hx,l1,_⟩:=Iz h2;have hs:s.fq=1\/s.fq=2:=by
  have:(Y7.all λx=>decide (x.Jb=1\/x.Jb=2))=true:=by decide
  have:=zJ.1 this x hx;rw[zI] at this;omega
 refine C2 ((M5 _).2 ⟨f.nw,f.sc,f.fr,f.rn,f.ck,f.pr,f.bd,LL,?_⟩) ?_
 ·unfold DP Yt;rw[if_pos rfl];simp only[zZ,beq_iff_eq];omega
 ·rcases hs with hs|hs
  ·exact F0 ⟨1,7,0,8,0,0,0,false⟩ (by simp[Y7]) ⟨hs,rfl,sd.1,sd.2,by rfl,by rfl,MG rfl rfl,Wo rfl⟩
  ·exact F0 ⟨2,7,0,8,0,0,0,false⟩ (by simp[Y7]) ⟨hs,rfl,sd.1,sd.2,by rfl,by rfl,MG rfl rfl,Wo rfl⟩
theorem KP{s:Q2}(h:Y7.any (F1 s)=true) :
  (s.fq=1/\s.fo=1->s.fm=0/\s.fD.size=0/\P1 s 0=true)/\
  (s.fq=1/\(s.fo=2\/s.fo=3)->1<=s.fm/\s.fm<=7/\P1 s 0=true)/\
  (s.fq=1/\s.fo=3->2<=s.fm/\s.fD.size=100)/\
  (s.fq=1/\s.fo=5->3<=s.fm/\s.fm<=8/\s.fD.size=204+s.fh.size+s.fj.fh.size/\P1 s 2=true)/\
  (s.fq=2/\s.fo=1->0<=s.fm/\s.fm<=6/\s.fD.size=0/\P1 s 0=true)/\
  (s.fq=2/\s.fo=4->1<=s.fm/\s.fm<=7/\s.fD.size=168+s.fh.size/\P1 s 1=true):=by
 obtain⟨x,hx,l1,l2,l3,l4,l5,l6,l7,l8⟩:=Iz h;simp only[Y7,zV,wa,or_false] at hx;rcases hx with rfl|rfl|rfl|rfl|rfl|rfl|rfl|rfl|rfl|rfl|rfl<;>simp only[Uj] at l1 l2 l3 l4 l5 l7<;>refine⟨λq=>?_,λq=>?_,λq=>?_,λq=>?_,λq=>?_,λq=>?_⟩<;>first|(exfalso;omega)|(refine⟨?_,?_,?_,?_⟩<;>first|omega|exact l7|(simp at l5;omega))|(refine⟨?_,?_,?_⟩<;>first|omega|exact l7|(simp at l5;omega))|(refine⟨?_,?_⟩<;>first|omega|exact l7|(simp at l5;omega))
theorem Kh{s:Q2}(f:Fx s)(h7:s.fo≠7){st:Int}(k:Int)(b:ze)(hst:st≠7)(P:K7)(T M:ze):Fx { MX s st k b with fj:=P,fD:=T,fF:=M }:=by
 refine⟨f.nw,f.sc,f.fr,f.rn,f.ck,f.pr,f.bd,?_,qR f.wy h7 hst rfl⟩;show Zb (My st s.fk)=true;unfold My;split
 ·rfl
 ·exact PZ (P8.1 f.nw).1
theorem MD{st now:Int}(h:¬(st=1\/st=6))(hn:0<=now):decide (0<=(My st now).fE)=true:=by
 unfold My Aq;rw[if_neg h];simp;omega
theorem KV{s:ze}(h:ZA s=true):s.size=32:=YA h
theorem Tf{s:Q2}(h:QZ s=true){r:Q2×List Z0}(hr:KR s=.inl r):QZ r.1=true:=by
 obtain⟨h1,h2⟩:=P5 h;have f:=(M5 s).1 h1;unfold KR at hr;cases hc:(s.fq==1&&s.fo==1) with
 | false=>rw[hc] at hr;cases hr
 | true=>
  rw[hc] at hr;obtain rfl:=Sum.inl.inj hr;simp only[zG,beq_iff_eq] at hc;obtain⟨g1,g2,g3⟩:=(KP h2).1 hc;have pz:=OF g3;refine C2 ((M5 _).2 (Kh f (by omega) 1 _ (by decide) s.fj s.fD s.fF)) (F0 ⟨1,2,1,1,0,0,1,true⟩ (by simp[Y7]) ⟨hc.1,rfl,?_,?_,?_,(MD (by decide) (P8.1 f.nw).1).symm,g3,?_⟩)
  ·show (1:Int)<=s.fm+1;omega
  ·show s.fm+1<=(1:Int);omega
  ·show (s.fD.size:Int)=0;omega
  ·exact Ku rfl (by decide) (by rw[ByteArray.size_append,F4,KV f.rn];decide) (by omega) rfl
theorem TD{s:Q2}(h:QZ s=true)(hs:s.fq=1/\(s.fo=2\/s.fo=3)){b:ze}{r:Q2×List Z0}(hr:ZQ s b=.inl r):QZ r.1=true:=by
 obtain⟨h1,h2⟩:=P5 h;have f:=(M5 s).1 h1;obtain⟨g1,g2,g3⟩:=(KP h2).2.1 hs;unfold ZQ at hr;split at hr
 ·cases hr
 ·rename_i hb;split at hr
  ·cases hr
  ·rename_i hq;obtain rfl:=Sum.inl.inj hr;have hb:b.size=32:=by simpa using hb
   have z:(s.fA++Um s++b).size=96:=by rw[ByteArray.size_append,ByteArray.size_append,F4,KV f.rn,hb]
   refine C2 ((M5 _).2 (Kh f (by omega) 1 _ (by decide) s.fj _ s.fF)) (F0 ⟨1,3,2,7,100,0,1,true⟩ (by simp[Y7]) ⟨hs.1,rfl,?_,?_,?_,(MD (by decide) (P8.1 f.nw).1).symm,g3,?_⟩)
   ·show (2:Int)<=s.fm+1;omega
   ·show s.fm+1<=(7:Int);omega
   ·show ((Jm 1 (s.fA++Um s++b)).size:Int)=100;rw[K6,z];rfl
   ·exact Ku rfl (by decide) (by rw[z];decide) (by omega) rfl
theorem NF(a b c d:ze):(FM a b c d).size=32:=B5 _ _
theorem Bv{s:Q2}(h:QZ s=true)(hs:s.fq=1/\s.fo=3){b:ze}:(∀r,X5 s b=.inl r->QZ r.1=true)/\∀e,X5 s b=.inr (true,e)->QZ (Yt s e)=true:=by
 obtain⟨h1,h2⟩:=P5 h;have f:=(M5 s).1 h1;obtain⟨g1,g2,g3⟩:=(KP h2).2.1 ⟨hs.1,.inr hs.2⟩;obtain⟨g4,g5⟩:=(KP h2).2.2.1 hs;unfold X5;by_cases c1:¬64 < b.size
 ·rw[if_pos c1];exact⟨λr hr=>(by cases hr),λe he=>by cases he⟩
 rw[if_neg c1];by_cases c2:okB (b.extract 64 b.size)=false
 ·rw[if_pos c2];exact⟨λr hr=>(by cases hr),λe he=>by cases he⟩
 rw[if_neg c2];have c2:okB (b.extract 64 b.size)=true:=by simpa using c2
 have ac:=RP f (MB c2).2;by_cases c3:T8 (QI (b.extract 64 b.size)) s.fJ s.fk≠0
 ·rw[if_pos c3];exact⟨λr hr=>(by cases hr),λe he=>(Prod.mk.inj (Sum.inr.inj he)).2▸Jy h (by omega)⟩
 rw[if_neg c3];by_cases c4:xS s.fZ (QI (b.extract 64 b.size)).fH=MZ\/xS s.gc (b.extract 32 64)=MZ
 ·rw[if_pos c4];exact⟨λr hr=>(by cases hr),λe he=>(Prod.mk.inj (Sum.inr.inj he)).2▸Jy h (.inl rfl)⟩
 rw[if_neg c4];refine⟨λr hr=>?_,λe he=>(by cases he)⟩;obtain rfl:=Sum.inl.inj hr;have zb:(b.extract 64 b.size).size=b.size - 64:=by rw[ByteArray.size_extract];omega
 have zB:(Hd s b).size=32+s.fh.size:=by unfold Hd;rw[ByteArray.size_append,X2]
 have bz:=T0 f.bd;refine C2 ((M5 _).2 (Kh f (by omega) 4 _ (by decide) _ _ _)) (F0 ⟨1,5,3,8,204,2,4,true⟩ (by simp[Y7]) ⟨hs.1,rfl,?_,?_,?_,(MD (by decide) (P8.1 f.nw).1).symm,?_,?_⟩)
 ·show (3:Int)<=s.fm+1;omega
 ·show s.fm+1<=(8:Int);omega
 ·show ((WW s b++Jm 4 (Hd s b)).size:Int)=204+(s.fh.size:Int)+((b.extract 64 b.size).size:Int);unfold WW;rw[ByteArray.size_append,ByteArray.size_append,K6,K6,zB,zb,g5];omega
 ·show (ZA (b.extract 0 32)&&(ZA (b.extract 32 64)&&(ZA (Dr s b)&&okB (b.extract 64 b.size))))=true;rw[c2,JJ (by rw[ByteArray.size_extract];omega),JJ (by rw[ByteArray.size_extract];omega),JJ (show (Dr s b).size=32 from NF _ _ _ _)];rfl
 ·exact Ku rfl (by decide) (by rw[zB];omega) (by omega) rfl
theorem dR{s:Q2}(h:QZ s=true)(hs:s.fq=1/\s.fo=5){b:ze}:(∀r,JQ s b=.inl r->QZ r.1=true)/\∀e,JQ s b=.inr (true,e)->QZ (Yt s e)=true:=by
 obtain⟨h1,h2⟩:=P5 h;have f:=(M5 s).1 h1;obtain⟨g1,g2,g3,g4⟩:=(KP h2).2.2.2.1 hs;unfold JQ;by_cases c1:b.size≠32
 ·rw[if_pos c1];exact⟨λr hr=>(by cases hr),λe he=>by cases he⟩
 rw[if_neg c1];by_cases c2:b≠O7 s.fF DC s.fD
 ·rw[if_pos c2];exact⟨λr hr=>(by cases hr),λe he=>(Prod.mk.inj (Sum.inr.inj he)).2▸Jy h (by decide)⟩
 rw[if_neg c2];refine⟨λr hr=>?_,λe he=>(by cases he)⟩;obtain rfl:=Sum.inl.inj hr;refine C2 ((M5 _).2 ⟨f.nw,f.sc,f.fr,f.rn,f.ck,f.pr,f.bd,LL,qR f.wy (by omega) (show (6:Int)≠7 by decide) rfl⟩) (F0 ⟨1,6,3,8,240,2,0,false⟩ (by simp[Y7]) ⟨hs.1,rfl,g1,g2,?_,rfl,g4,Wo rfl⟩);show ((s.fD++Jm 5 b).size:Int)=240+(s.fh.size:Int)+(s.fj.fh.size:Int);rw[ByteArray.size_append,K6,g3];omega
theorem Vn{s:Q2}(h:QZ s=true)(hs:s.fq=2/\s.fo=1){from_ b:ze}{r:Q2×List Z0}(hr:R3 s from_ b=.inl r):QZ r.1=true:=by
 obtain⟨h1,h2⟩:=P5 h;have f:=(M5 s).1 h1;obtain⟨g1,g2,g3,g4⟩:=(KP h2).q.1 hs;have pz:=OF g4;unfold R3 at hr;split at hr
 ·cases hr
 rename_i c1;split at hr
 ·split at hr
  ·cases hr
  rename_i c3;obtain rfl:=Sum.inl.inj hr;refine C2 ((M5 _).2 (Kh f (by omega) 2 _ (by decide) s.fj s.fD s.fF)) (F0 ⟨2,1,1,6,0,0,2,false⟩ (by simp[Y7]) ⟨hs.1,rfl,?_,?_,?_,rfl,g4,?_⟩)
  ·show (1:Int)<=s.fm+1;omega
  ·show s.fm+1<=(6:Int);omega
  ·show (s.fD.size:Int)=0;omega
  ·exact Ku rfl (by decide) (by rw[B5];decide) (by omega) rfl
 ·rename_i c2;obtain rfl:=Sum.inl.inj hr;have c2:b.extract 64 b.size=ZU s.gb (from_++b.extract 0 64):=by simpa using c2
  have zb:b.size=96:=by
   have e:=congrArg ByteArray.size c2;rw[B5,ByteArray.size_extract] at e;omega
  have zh:(HZ s).size=64+s.fh.size:=by unfold HZ;rw[ByteArray.size_append,ByteArray.size_append,F4,KV f.rn]
  have bz:=T0 f.bd;refine C2 ((M5 _).2 (Kh f (by omega) 3 _ (by decide) _ _ s.fF)) (F0 ⟨2,4,1,7,168,1,3,true⟩ (by simp[Y7]) ⟨hs.1,rfl,?_,?_,?_,(MD (by decide) (P8.1 f.nw).1).symm,?_,?_⟩)
  ·show (1:Int)<=s.fm+1;omega
  ·show s.fm+1<=(7:Int);omega
  ·show ((Dj s b++Jm 3 (HZ s)).size:Int)=168+(s.fh.size:Int);unfold Dj;rw[ByteArray.size_append,ByteArray.size_append,K6,K6,zh,zb,g3];omega
  ·show (ZA (b.extract 0 32)&&(ZA (b.extract 32 64)&&(HH zg&&HH s.fF)))=true;rw[pz.2,JJ (by rw[ByteArray.size_extract];omega),JJ (by rw[ByteArray.size_extract];omega)];decide
  ·exact Ku rfl (by decide) (by rw[zh];omega) (by omega) rfl
theorem TI{s:Q2}(h:QZ s=true)(hs:s.fq=2/\s.fo=4){b:ze}:(∀r,F8 s b=.inl r->QZ r.1=true)/\∀e,F8 s b=.inr (true,e)->QZ (Yt s e)=true:=by
 obtain⟨h1,h2⟩:=P5 h;have f:=(M5 s).1 h1;obtain⟨g1,g2,g3,g4⟩:=(KP h2).q.2 hs;unfold F8;by_cases c1:¬32 < b.size
 ·rw[if_pos c1];exact⟨λr hr=>(by cases hr),λe he=>by cases he⟩
 rw[if_neg c1];by_cases c2:okB (b.extract 32 b.size)=false
 ·rw[if_pos c2];exact⟨λr hr=>(by cases hr),λe he=>by cases he⟩
 rw[if_neg c2];have c2:okB (b.extract 32 b.size)=true:=by simpa using c2
 have ac:=RP f (MB c2).2;by_cases c3:T8 (QI (b.extract 32 b.size)) s.fJ s.fk≠0
 ·rw[if_pos c3];exact⟨λr hr=>(by cases hr),λe he=>(Prod.mk.inj (Sum.inr.inj he)).2▸Jy h (by omega)⟩
 rw[if_neg c3];by_cases c4:xS s.gc s.fj.fQ=MZ\/xS s.fZ (QI (b.extract 32 b.size)).fH=MZ
 ·rw[if_pos c4];exact⟨λr hr=>(by cases hr),λe he=>(Prod.mk.inj (Sum.inr.inj he)).2▸Jy h (.inl rfl)⟩
 rw[if_neg c4];by_cases c5:b.extract 0 32≠O7 (Kn s b) Ks (s.fD++b.extract 32 b.size)
 ·rw[if_pos c5];exact⟨λr hr=>(by cases hr),λe he=>(Prod.mk.inj (Sum.inr.inj he)).2▸Jy h (by decide)⟩
 rw[if_neg c5];refine⟨λr hr=>?_,λe he=>(by cases he)⟩;obtain rfl:=Sum.inl.inj hr;have zb:(b.extract 32 b.size).size=b.size - 32:=by rw[ByteArray.size_extract];omega
 have zC:(Hb s b).size=32:=X2 _ _ _
 have g4':ZA s.fj.fA=true/\ZA s.fj.fQ=true:=by
  unfold P1 at g4;simp only[show ¬(1:Int)=0 by decide,if_true,if_false,zG] at g4;exact⟨g4.1,g4.2.1⟩
 refine C2 ((M5 _).2 (Kh f (by omega) 5 _ (by decide) _ _ _)) (F0 ⟨2,6,2,8,240,2,5,false⟩ (by simp[Y7]) ⟨hs.1,rfl,?_,?_,?_,rfl,?_,?_⟩)
 ·show (2:Int)<=s.fm+1;omega
 ·show s.fm+1<=(8:Int);omega
 ·show ((Me s b++Jm 5 (Hb s b)).size:Int)=240+(s.fh.size:Int)+((b.extract 32 b.size).size:Int);unfold Me;rw[ByteArray.size_append,ByteArray.size_append,K6,K6,zC,zb,g3];omega
 ·show (ZA s.fj.fA&&(ZA s.fj.fQ&&(ZA (Kn s b)&&okB (b.extract 32 b.size))))=true;rw[c2,g4'.1,g4'.2,JJ (show (Kn s b).size=32 from NF _ _ _ _)];rfl
 ·exact Ku rfl (by decide) (by rw[zC];decide) (by omega) rfl
theorem CI{t:Y0}{now:Int}(h:(Hj t now).1=true):Zb t=true/\V0 now=true/\0<=t.fE/\(Hj t now).2=0:=by
 unfold Hj at *
 cases h1:Zb t with
 | false=>rw[h1] at h;cases h
 | true=>
  cases h2:V0 now with
  | false=>rw[h1,h2] at h;cases h
  | true=>
   rw[h1,h2] at h;simp only[Bool.not_true,cond_false,zG,zI] at h;exact⟨rfl,rfl,h.1,rfl⟩
theorem qS(k:Int):0<=ZG k:=by unfold ZG;repeat' split<;>try decide
theorem Quq{t:Y0}{now:Int}(h:(Hj t now).1=true)(h2:(GH t now).2=0):Zb (GH t now).1=true/\0<=(GH t now).1.fE:=by
 obtain⟨g1,g2,g3,g4⟩:=CI h;have gn:=P8.1 g2;have e:GH t now=bif t.fL==8 then (stZ,4) else (⟨now+ZG (t.fL+1),ZG (t.fL+1),t.fL+1⟩,0):=by
  unfold GH;rw[g4,h];rfl
 rw[e] at h2 ⊢;cases h8:(t.fL==8) with
 | true=>rw[h8] at h2;cases h2
 | false=>
  rw[h8] at h2;simp only[cond_false];have h8:t.fL≠8:=by simpa using h8
  have hw:=qS (t.fL+1);unfold Zb at g1 ⊢;rw[show (t.fE==-1)=false by simp;omega] at g1;simp only[cond_false,zG,zI] at g1;rw[show (now+ZG (t.fL+1)==-1)=false by simp;omega];simp only[cond_false,zG,zI,beq_self_eq_true,and_true];omega
theorem yH{s:Q2}(h:QZ s=true):(∀r,XB s=.inl r->QZ r.1=true)/\∀e,XB s=.inr (true,e)->QZ (Yt s e)=true:=by
 obtain⟨h1,h2⟩:=P5 h;have f:=(M5 s).1 h1;unfold XB;cases hd:(Hj s.fy s.fk).1 with
 | false=>exact⟨λr hr=>by obtain rfl:=Sum.inl.inj hr;exact h,λe he=>(by cases he)⟩
 | true=>
  cases ha:(GH s.fy s.fk).2 != 0 with
  | true=>exact⟨λr hr=>(by cases hr),λe he=>(Prod.mk.inj (Sum.inr.inj he)).2▸Jy h (by decide)⟩
  | false=>
   refine⟨λr hr=>?_,λe he=>(by cases he)⟩;obtain rfl:=Sum.inl.inj hr;have ha:(GH s.fy s.fk).2=0:=by simpa using ha
   obtain⟨q1,q2⟩:=Quq hd ha;obtain⟨g1,g2,g3,g4⟩:=CI hd;obtain⟨x,hx,l1,l2,l3,l4,l5,l6,l7,l8⟩:=Iz h2;refine C2 ((M5 _).2 ⟨f.nw,f.sc,f.fr,f.rn,f.ck,f.pr,f.bd,q1,f.wy⟩) (F0 x hx ⟨l1,l2,l3,l4,l5,?_,l7,l8⟩);rw[l6];show decide _=decide (0<=(GH s.fy s.fk).1.fE);rw[we g3,we q2]
theorem Vr{s:Q2}(h:QZ s=true)(f:ze)(n:Z0):(∀r,H5 s f n=.inl r->QZ r.1=true)/\∀e,H5 s f n=.inr (true,e)->QZ (Yt s e)=true:=by
 unfold H5;by_cases c1:s.fq=1/\(s.fo=2\/s.fo=3)/\n.fw=2
 ·rw[if_pos c1];refine⟨λr hr=>TD h ⟨c1.1,c1.2.1⟩ hr,λe he=>?_⟩;unfold ZQ at he;split at he
  ·cases he
  split at he<;>cases he
 rw[if_neg c1];by_cases c2:s.fq=1/\s.fo=3/\n.fw=3
 ·rw[if_pos c2];exact Bv h ⟨c2.1,c2.2.1⟩
 rw[if_neg c2];by_cases c3:s.fq=1/\s.fo=5/\n.fw=5
 ·rw[if_pos c3];exact dR h ⟨c3.1,c3.2.1⟩
 rw[if_neg c3];by_cases c4:s.fq=2/\s.fo=1/\n.fw=1
 ·rw[if_pos c4];refine⟨λr hr=>Vn h ⟨c4.1,c4.2.1⟩ hr,λe he=>?_⟩;unfold R3 at he;split at he
  ·cases he
  split at he
  ·split at he<;>cases he
  ·cases he
 rw[if_neg c4];by_cases c5:s.fq=2/\s.fo=4/\n.fw=4
 ·rw[if_pos c5];exact TI h ⟨c5.1,c5.2.1⟩
 rw[if_neg c5];exact⟨λr hr=>(by cases hr),λe he=>(by cases he)⟩
theorem Qjm{s:Q2}(h:QZ s=true)(v:Q6):(∀r,HY s v=.inl r->QZ r.1=true)/\∀e,HY s v=.inr (true,e)->QZ (Yt s e)=true:=by
 unfold HY;by_cases c1:v.fw=1
 ·rw[if_pos c1];refine⟨λr hr=>Tf h hr,λe he=>?_⟩;unfold KR at he;cases hc:(s.fq==1&&s.fo==1)<;>rw[hc] at he<;>cases he
 rw[if_neg c1];by_cases c2:v.fw=2
 ·rw[if_pos c2];exact Vr h _ _
 rw[if_neg c2];by_cases c3:v.fw=3
 ·rw[if_pos c3];exact yH h
 rw[if_neg c3];exact⟨λr hr=>by obtain rfl:=Sum.inl.inj hr;exact h,λe he=>(by cases he)⟩
def iL(x:Out):Prop:=x≠.inr (false,0)
theorem KQ(r:Q2×List Z0):iL (.inl r):=λh=>by cases h
theorem AX(e:Int):iL (.inr (true,e)):=λh=>absurd (Prod.mk.inj (Sum.inr.inj h)).1 (by decide)
theorem We{e:Int}(he:e≠0):iL (.inr (false,e)):=λh=>he (Prod.mk.inj (Sum.inr.inj h)).2
theorem D6{p:Prop}[Decidable p]{x y:Out}(hx:iL x)(hy:iL y):iL (if p then x else y):=by split<;>assumption
theorem FH{p:Bool}{x y:Out}(hx:iL x)(hy:iL y):iL (bif p then x else y):=by cases p<;>assumption
theorem Qjd(s:Q2)(v:Q6):iL (HY s v):=by
 unfold HY;refine D6 ?_ (D6 ?_ (D6 ?_ (KQ _)))
 ·exact FH (KQ _) (We (by decide))
 ·unfold H5;refine D6 ?_ (D6 ?_ (D6 ?_ (D6 ?_ (D6 ?_ (We (by decide))))))
  ·exact D6 (We (by decide)) (D6 (We (by decide)) (KQ _))
  ·exact D6 (We (by decide)) (D6 (We (by decide)) (D6 (AX _) (D6 (AX _) (KQ _))))
  ·exact D6 (We (by decide)) (D6 (AX _) (KQ _))
  ·exact D6 (We (by decide)) (D6 (D6 (We (by decide)) (KQ _)) (KQ _))
  ·exact D6 (We (by decide)) (D6 (We (by decide)) (D6 (AX _) (D6 (AX _) (D6 (AX _) (KQ _)))))
 ·exact FH (KQ _) (FH (AX _) (KQ _))
theorem Qjx{s:Q2}(h:V0 s.fk=true){v:Q6}(he:dM s v=true):V0 v.fk=true:=by
 unfold dM at he;simp only[zG,zI] at he;have:=P8.1 h;exact P8.2 (by omega)
theorem R8{s:Q2}{v:Q6}(h:(U3 s v).2.2=0):QZ (U3 s v).1=true:=by
 unfold U3 at *
 cases hs:QZ s with
 | false=>rw[hs] at h;exact absurd h (show (200:Int)≠0 by decide)
 | true=>
  rw[hs] at h;cases he:dM s v with
  | false=>rw[he] at h;exact absurd h (show (2:Int)≠0 by decide)
  | true=>
   rw[he] at h;have h0:=oE hs (Qjx ((M5 s).1 (P5 hs).1).nw he);have k:=Qjm h0 v;have z:=Qjd { s with fk:=v.fk } v;simp only[cond_true] at h ⊢
   match hq:HY { s with fk:=v.fk } v with
   | .inl r=>exact k.1 r hq
   | .inr (true,e)=>exact k.2 e hq
   | .inr (false,e)=>
    rw[hq] at h;have:e=0:=h;rw[this] at hq;exact absurd hq z
theorem yG{s:Q2}{v:Q6}(hs:QZ s=true)(he:dM s v=true):U3 s v=Oi { s with fk:=v.fk } (HY { s with fk:=v.fk } v):=by
 unfold U3;rw[hs,he];rfl
theorem Jw{n:Int}(h0:0<=n)(h:n < 32):(bif decide (0<=n)&&decide (n < ((32:Nat):Int)) then some () else none)=some ():=by
 grind
theorem KL{f:zl}{j n:Nat}(hj:j=n)(h:n < 32):(vec f)[j]?=some (f n):=by rw[hj,LM,if_pos h]
theorem lT(a b c:Zj)(hc:∀k,c.getMsbD k=(a.getMsbD k ^^ b.getMsbD k)):Qy (Tt a.getMsbD b.getMsbD) (λr=>r=c.getMsbD):=by
 unfold Tt;refine Qy.fn ?_;unfold Qky;refine Ok.o rfl (Ok.o rfl (Ok.o rfl (Ok.o rfl (Ok.b (R:=λe=>e=c.getMsbD) ?_ λe he=>Ok.o rfl (Ok.o rfl (Ok.d he))))));refine Ok.s 32 (by decide) (λk y=>y=(λi=>decide (i < k)&&c.getMsbD i,(k:Int))) (by grind) (λk y hy hk=>?_) λy hy=>?_
 ·subst hy;refine Ok.t (by simp;omega) (Ok.o (r:=()) (Jw (by simp) (by grind)) (Ok.r rfl (KL (n:=k) (by simp) hk) (Ok.o (r:=()) (Jw (by simp) (by grind)) (Ok.r rfl (KL (n:=k) (by simp) hk) (Ok.o (r:=()) (Jw (by simp) (by grind)) (Ok.r rfl (KL (n:=k) (by simp) hk) (Ok.re (Ok.d ?_))))))));show (_,_)=_;rw[Z9 hk (by decide),<-XN,hc];grind
 ·subst hy;exact Ok.f rfl (Ok.d (AG _))
theorem Ss(a b:Zj):Qy (Tt a.getMsbD b.getMsbD) (λr=>r=(a ^^^ b).getMsbD):=lT a b _ λ_=>BitVec.getMsbD_xor
theorem gJ(a b c:Zj)(hc:∀k,c.getMsbD k=(a.getMsbD k&&b.getMsbD k)):Qy (Nl a.getMsbD b.getMsbD) (λr=>r=c.getMsbD):=by
 unfold Nl;refine Qy.fn ?_;unfold Qkz;refine Ok.o rfl (Ok.o rfl (Ok.o rfl (Ok.o rfl (Ok.b (R:=λe=>e=c.getMsbD) ?_ λe he=>Ok.o rfl (Ok.o rfl (Ok.d he))))));refine Ok.s 32 (by decide) (λk y=>y=(λi=>decide (i < k)&&c.getMsbD i,(k:Int))) (by grind) (λk y hy hk=>?_) λy hy=>?_
 ·subst hy;have g:∀x:Bool,x=c.getMsbD k->(GS (λi=>decide (i < k)&&c.getMsbD i) (0+((k:Int)).toNat) x,Q0 ((k:Int)+1))=(λi=>decide (i < k+1)&&c.getMsbD i,((k+1:Nat):Int)):=λx hx=>by
   rw[Z9 hk (by decide),<-XN,hx];grind
  refine Ok.t (by simp;omega) (Ok.o (r:=()) (Jw (by simp) (by grind)) (Ok.r rfl (KL (n:=k) (by simp) hk) (Ok.e (λh=>?_) λh=>?_)))
  ·exact Ok.o (r:=()) (Jw (by simp) (by grind)) (Ok.r rfl (KL (n:=k) (by simp) hk) (Ok.o (r:=()) (Jw (by simp) (by grind)) (Ok.r rfl (KL (n:=k) (by simp) hk) (by grind [Ok.re,Ok.d]))))
  ·exact Ok.o (r:=()) (Jw (by simp) (by grind)) (Ok.r rfl (KL (n:=k) (by simp) hk) (by grind [Ok.re,Ok.d]))
 ·subst hy;exact Ok.f rfl (Ok.d (AG _))
theorem AQ(a b:Zj):Qy (Nl a.getMsbD b.getMsbD) (λr=>r=(a &&& b).getMsbD):=gJ a b _ λ_=>BitVec.getMsbD_and
theorem gZ(a c:Zj)(hc:∀k,c.getMsbD k=(decide (k < 32)&&!a.getMsbD k)):Qy (oO a.getMsbD) (λr=>r=c.getMsbD):=by
 unfold oO;refine Qy.fn ?_;unfold Qkq;refine Ok.o rfl (Ok.o rfl (Ok.o rfl (Ok.b (R:=λe=>e=c.getMsbD) ?_ λe he=>Ok.o rfl (Ok.o rfl (Ok.d he)))));refine Ok.s 32 (by decide) (λk y=>y=(λi=>decide (i < k)&&c.getMsbD i,(k:Int))) (by grind) (λk y hy hk=>?_) λy hy=>?_
 ·subst hy;refine Ok.t (by simp;omega) (Ok.o (r:=()) (Jw (by simp) (by grind)) (Ok.r rfl (KL (n:=k) (by simp) hk) (Ok.o (r:=()) (Jw (by simp) (by grind)) (Ok.r rfl (KL (n:=k) (by simp) hk) (Ok.re (Ok.d ?_))))));show (_,_)=_;rw[Z9 hk (by decide),<-XN,hc];grind
 ·subst hy;exact Ok.f rfl (Ok.d (AG _))
theorem Qqt(a:Zj):Qy (oO a.getMsbD) (λr=>r=(~~~a).getMsbD):=gZ a _ λ_=>BitVec.getMsbD_not
theorem F5(a:Zj)(c:Nat)(hc:c < 32):Qy (DT a.getMsbD (c:Int)) (λr=>r=(a.rotateRight c).getMsbD):=by
 unfold DT;refine Qy.fn ?_;unfold Qku;refine Ok.o rfl (Ok.o rfl (Ok.o rfl (Ok.b (R:=λe=>e=(a.rotateRight c).getMsbD) ?_ λe he=>Ok.o rfl (Ok.o rfl (Ok.d he)))));have back:∀j,j < 32->(a.rotateRight c).getMsbD j=a.getMsbD ((j+32 - c) % 32):=(by grind);refine Ok.s 32 (by decide) (λk y=>y=(λj=>(decide (j < 32)&&decide ((j+32 - c) % 32 < k))&&a.getMsbD ((j+32 - c) % 32),(k:Int))) (by
  grind) (λk y hy hk=>?_) λy hy=>?_
 ·subst hy;have e1:Int.tmod (Q0 ((k:Int)+(c:Int))) 32=(((k+c) % 32:Nat):Int):=by
   grind [Z4,Int.tmod_eq_emod_of_nonneg]
  have hm:(k+c) % 32 < 32:=Nat.mod_lt _ (by decide);refine Ok.t (by simp;omega) (Ok.o (r:=()) (Jw (by simp) (by grind)) (Ok.r rfl (KL (n:=k) (by simp) hk) (Ok.o (r:=()) (Jw (by rw[e1];omega) (by rw[e1];omega)) (Ok.r rfl (KL (n:=(k+c) % 32) (by grind) hm) (Ok.re (Ok.d ?_))))))
  show (_,_)=_;rw[Z9 hk (by decide),e1];congr 1;funext j;simp only[zR,zY,GS];by_cases hj:j=(k+c) % 32
  ·subst hj;have:((k+c) % 32+32 - c) % 32=k:=by omega
   grind
  grind
 ·subst hy;refine Ok.f rfl (Ok.d ?_);grind
theorem NU(a:Zj)(c:Nat)(hc:c < 32):Qy (oL a.getMsbD (c:Int)) (λr=>r=(a >>> c).getMsbD):=by
 unfold oL;refine Qy.fn ?_;unfold Qkj;refine Ok.o rfl (Ok.o rfl (Ok.o rfl (Ok.b (R:=λe=>e=(a >>> c).getMsbD) ?_ λe he=>Ok.o rfl (Ok.o rfl (Ok.d he)))));refine Ok.s (32 - c) (by omega) (λk y=>y=(λj=>(decide (c<=j)&&decide (j < k+c))&&a.getMsbD (j - c),(k:Int))) (by
  grind) (λk y hy hk=>?_) λy hy=>?_
 ·subst hy;have e1:Q0 ((k:Int)+(c:Int))=((k+c:Nat):Int):=by grind [Z4]
  refine Ok.t (by grind) (Ok.o (r:=()) (Jw (by simp) (by simp;omega)) (Ok.r rfl (KL (n:=k) (by simp) (by omega)) (Ok.o (r:=()) (Jw (by rw[e1];omega) (by rw[e1];omega)) (Ok.r rfl (KL (n:=k+c) (by grind) (by omega)) (Ok.re (Ok.d ?_))))));show (_,_)=_;rw[Z9 (n:=32) (by omega) (by decide),e1];congr 1;funext j;simp only[zR,zY,GS];grind
 grind [Ok.f,Z4,Ok.d]
theorem bU(a:Zj){k:Nat}(hk:k < 32):a.getMsbD k=decide (a.toNat / 2 ^ (31 - k) % 2=1):=by
 rw[BitVec.getMsbD,BitVec.getLsbD,Nat.testBit_eq_decide_div_mod_eq];simp[hk]
theorem Ui(a:Zj):Qy (Nf a.getMsbD) (λr=>r=iv a):=by
 unfold Nf;refine Qy.fn ?_;unfold Qkw;have hlt:=a.isLt;refine Ok.o rfl (Ok.b (R:=λe=>e=iv a) ?_ λe he=>Ok.d he);refine Ok.s 32 (by decide) (λk y=>y=(((a.toNat / 2 ^ (32 - k):Nat):Int),(k:Int))) (by
  grind) (λk y hy hk=>?_) λy hy=>?_
 ·subst hy;have hb:=bU a hk;have hd:a.toNat / 2 ^ (31 - k) / 2=a.toNat / 2 ^ (32 - k):=by rw[Nat.div_div_eq_div_mul,show 32 - k=31 - k+1 by omega,Nat.pow_succ]
  have hs:a.toNat / 2 ^ (31 - k)<=a.toNat:=Nat.div_le_self _ _;rw[show 32 - (k+1)=31 - k by omega];generalize a.toNat / 2 ^ (31 - k)=q at hb hd hs ⊢;rw[<-hd];refine Ok.t (by simp;omega) (Ok.o (r:=()) (Jw (by simp) (by grind)) (Ok.r rfl (KL (n:=k) (by simp) hk) ?_));refine Ok.e (λh=>Ok.d ?_) λh=>Ok.d ?_
  ·show (_,_)=_;rw[hb,zI] at h;grind [Z9,Z4]
  grind [decide_eq_false_iff_not,Z9,Z4]
 ·subst hy;refine Ok.f rfl (Ok.d ?_);simp_all [Nat.pow_zero,Nat.div_one,iv]
theorem Jf(a:Zj):Qy (IS (iv a)) (λr=>r=a.getMsbD):=by
 unfold IS;refine Qy.fn ?_;unfold Qkk;have hlt:=a.isLt;refine Ok.o rfl (Ok.o rfl (Ok.b (R:=λe=>e=a.getMsbD) ?_ λe he=>Ok.o rfl (Ok.o rfl (Ok.d he))));refine Ok.s 32 (by decide) (λk y=>y=(λj=>(decide (32 - k<=j)&&decide (j < 32))&&a.getMsbD j,((a.toNat / 2 ^ k:Nat):Int),(31:Int) - (k:Int))) (by
  show (_,_,_)=_;rw[Nat.pow_zero,Nat.div_one];congr 1;grind) (λk y hy hk=>?_) λy hy=>?_
 ·subst hy;have hb:=bU a (k:=31 - k) (by omega);rw[show 31 - (31 - k)=k by omega] at hb;have hd:a.toNat / 2 ^ k / 2=a.toNat / 2 ^ (k+1):=by rw[Nat.div_div_eq_div_mul,Nat.pow_succ]
  have hs:a.toNat / 2 ^ k<=a.toNat:=Nat.div_le_self _ _;rw[<-hd];generalize a.toNat / 2 ^ k=q at hb hd hs ⊢
  have e1:(31:Int) - (k:Int)=((31 - k:Nat):Int):=by omega
  refine Ok.t (by grind) (Ok.o (r:=()) (Jw (by grind) (by grind)) (Ok.r rfl (KL (n:=31 - k) (by grind) (by omega)) (Ok.re (Ok.d ?_))));show (GS _ _ (Int.tmod (q:Int) 2==1),Q0 (Int.tdiv (q:Int) 2),Q0 ((31:Int) - (k:Int) - 1))=_;rw[Int.tdiv_eq_ediv_of_nonneg (by omega),Z4 (n:=(q:Int) / 2) (by omega) (by omega),Z4 (by omega) (by omega),Int.tmod_eq_emod_of_nonneg (by omega)];congr 1
  ·funext j;simp only[e1,zR,zY,GS];grind
  grind
 ·subst hy;refine Ok.f rfl (Ok.d ?_);grind
theorem Wj(a b c:Zj):Qy (PG a.getMsbD b.getMsbD c.getMsbD) (λr=>r=(a ^^^ b ^^^ c).getMsbD):=by
 unfold PG;refine Qy.fn ?_;unfold Qkh;refine Ok.o rfl (Ok.o rfl (Ok.o rfl (Ok.o rfl (Ok.o rfl (Ok.o rfl (Ok.c (Ss a b) λr hr=>?_))))));subst hr;refine Ok.o rfl (Ok.c (Ss _ c) λr hr=>?_);subst hr;exact Ok.o rfl (Ok.d rfl)
theorem lV(a b c d e:Int)(ha:0<=a/\a < 4294967296)(hb:0<=b/\b < 4294967296)(hc:0<=c/\c < 4294967296)(hd:0<=d/\d < 4294967296)(he:0<=e/\e < 4294967296):Qy (DV a b c d e) (λr=>r=(a+b+c+d+e) % 4294967296):=by
 refine⟨_,rfl,?_⟩;grind [Z4,Int.tmod_eq_emod_of_nonneg]
theorem VG{s:ze}{k:Nat}(h:k < s.size):(Q3 s)[k]?=some (QQ s (k:Int)):=by
 simp_all [wc,zR,Array.getElem?_toList,wm,wB,Q3,QQ]
theorem Xs(s:ze)(h:s.size<=7):Qy (TH s) (λr=>r=num (Q3 s)):=by
 have hl:=U1 s
 have hb:∀c,c∈Q3 s->0<=c/\c < 256:=λc hc=>WT hc;unfold TH;refine Qy.fn ?_;unfold Qe0;refine Ok.b (R:=λe=>e=num (Q3 s)) ?_ λe he=>Ok.d he;refine Ok.s s.size (by omega) (λk y=>k<=s.size/\y=(num ((Q3 s).take k),(k:Int))) ⟨Nat.zero_le _,rfl⟩ (λk y hy hk=>?_) λy hy=>?_
 ·obtain⟨_,rfl⟩:=hy;refine Ok.t (by simp;omega) (Ok.k (by simp;omega) (Ok.d ?_));obtain⟨x,hx,hx'⟩:=N3 (l:=Q3 s) (k:=k) (by omega);have hbt:QQ s (k:Int)=x:=by
   grind [VG,Option.some.inj]
  have h1:=Ca (n:=k) hb (by omega)
  have h2:=hb x (zX hx');grind [NO,Z9,Z4,Q0,num,Q3,QQ]
 ·obtain⟨_,rfl⟩:=hy;grind [Ok.f,Ok.d,List.take_length,num,Q3]
theorem oZ(a b c d e:Zj):(iv a+iv b+iv c+iv d+iv e) % 4294967296=iv (a+b+c+d+e):=by
 grind [iv]
theorem Qqp(a b c d e:Zj):Qy (DV (iv a) (iv b) (iv c) (iv d) (iv e)) (λr=>r=iv (a+b+c+d+e)):=
 (lV _ _ _ _ _ (Yu a) (Yu b) (Yu c) (Yu d) (Yu e)).mono λr h=>by rw[h,oZ]
theorem Wu(a b:Zj):Qy (DV (iv a) (iv b) 0 0 0) (λr=>r=iv (a+b)):=
 (show Qy (DV (iv a) (iv b) 0 0 0) (λr=>r=iv (a+b+0+0+0)) from Qqp a b 0 0 0).mono λr h=>by rw[h];simp
theorem Qw4(a b c d:Zj):Qy (DV (iv a) (iv b) (iv c) (iv d) 0) (λr=>r=iv (a+b+c+d)):=
 (show Qy (DV (iv a) (iv b) (iv c) (iv d) 0) (λr=>r=iv (a+b+c+d+0)) from Qqp a b c d 0).mono λr h=>by rw[h];simp
theorem ix{n:Int}{k m:Nat}(h:n=(k:Int))(hk:k < m):(decide (0<=n)&&decide (n < (m:Int)))=true:=by grind
theorem PF(b:Nat->Zj)(k:Nat):M0 b (k+1)=M0 b k++[if k < 16 then b k else nxt (M0 b k) k]:=rfl
theorem PL(b:Nat->Zj):M0 b 0=[]:=rfl
attribute [local irreducible] M0
theorem hG(t:R6)(ht:t.fK=J1)(v:V8)(s:ze)(hs:s.size=64):Qy (tS t (l8 v) s) (λr=>r=l8 (rN KB (bw s) v)):=by
 unfold tS;refine Qy.fn ?_;unfold Qkb;refine Ok.g (Ok.b (R:=λe=>e=(M0 (bw s) 64).map iv) ?_ λe he=>?_)
 ·refine Ok.s 64 (by decide) (λk y=>y=((M0 (bw s) k).map iv,(k:Int))) (by rw[PL];rfl) (λk y hy hk=>?_) λy hy=>?_
  ·subst hy;have hlen:((M0 (bw s) k).map iv).length=k:=by rw[wF,WO]
   have fin:∀w:Zj,w=(if k < 16 then bw s k else nxt (M0 (bw s) k) k)->(((M0 (bw s) k).map iv)++[iv w],Q0 ((k:Int)+1))=((M0 (bw s) (k+1)).map iv,((k+1:Nat):Int)):=λw hw=>by
    rw[Z9 hk (by decide),PF,<-hw,wO];rfl
   have sz:∀x:Int,(((M0 (bw s) k).map iv).length+[x].length) * 8<=140737488355328:=(by grind);refine Ok.t (by simp;omega) (Ok.e (λhc=>?_) λhc=>?_)
   ·have hc:(k:Int) < 16:=by simpa using hc
    have e1:Q0 ((4:Int) * (k:Int))=((4 * k:Nat):Int):=by grind [Z4]
    have e2:Q0 (((4 * k:Nat):Int)+4)=((4 * k+4:Nat):Int):=by grind [Z4]
    have ez:(s.extract (4 * k) (4 * k+4)).size=4:=by rw[ByteArray.size_extract];omega
    simp only[e1,e2,zR];refine Ok.k (by simp;omega) (Ok.c (Xs _ (by omega)) λr hr=>?_);have hr':r=iv (bw s k):=by
     rw[hr,bw,ivN];have:=kB (l:=Q3 (s.extract (4 * k) (4 * k+4))) λc hc=>WT hc;rw[U1,ez] at this;omega
    subst hr';exact Ok.app (sz _) (Ok.g (Ok.g (Ok.d (by grind))))
   ·have hc:16<=(k:Int):=by simpa using hc
    have e15:Q0 ((k:Int) - 15)=((k - 15:Nat):Int):=by grind [Z4]
    have e2:Q0 ((k:Int) - 2)=((k - 2:Nat):Int):=by grind [Z4]
    have e16:Q0 ((k:Int) - 16)=((k - 16:Nat):Int):=by grind [Z4]
    have e7:Q0 ((k:Int) - 7)=((k - 7:Nat):Int):=by grind [Z4]
    have look:∀n:Nat,n < k->((M0 (bw s) k).map iv)[0+(n:Int).toNat]?=some (iv (BM (M0 (bw s) k) n)):=λn hn=>by
     simp_all [zR,zY,wc,wl,WO,BM]
    simp only[e15,e2,e16,e7];refine Ok.k (ix rfl (by omega)) (Ok.r rfl (look (k - 15) (by omega)) (Ok.c (Jf _) λr1 q1=>?_));subst q1;refine Ok.k (ix rfl (by omega)) (Ok.r rfl (look (k - 2) (by omega)) (Ok.c (Jf _) λr2 q2=>?_));subst q2;refine Ok.o rfl (Ok.o rfl (Ok.o rfl (Ok.o rfl (Ok.k (ix rfl (by omega)) (Ok.r rfl (look (k - 16) (by omega)) (Ok.k (ix rfl (by omega)) (Ok.r rfl (look (k - 7) (by omega)) ?_)))))));refine Ok.o rfl (Ok.c (F5 _ 7 (by decide)) λr3 q3=>?_);subst q3;refine Ok.o rfl (Ok.c (F5 _ 18 (by decide)) λr4 q4=>?_);subst q4;refine Ok.o rfl (Ok.c (NU _ 3 (by decide)) λr5 q5=>?_);subst q5;refine Ok.c (Wj _ _ _) λr6 q6=>?_;subst q6;refine Ok.c (Ui _) λr7 q7=>?_;subst q7;refine Ok.o rfl (Ok.c (F5 _ 17 (by decide)) λr3 q3=>?_);subst q3;refine Ok.o rfl (Ok.c (F5 _ 19 (by decide)) λr4 q4=>?_);subst q4;refine Ok.o rfl (Ok.c (NU _ 10 (by decide)) λr5 q5=>?_);subst q5;refine Ok.c (Wj _ _ _) λr6 q6=>?_;subst q6;refine Ok.c (Ui _) λr8 q8=>?_;subst q8;refine Ok.c (Qw4 _ _ _ _) λr9 q9=>?_;subst q9;exact Ok.app (sz _) (Ok.g (Ok.g (Ok.d (fin _ (by rw[if_neg (by omega)];rfl)))))
  ·subst hy;exact Ok.f rfl (Ok.d rfl)
 ·subst he;unfold rN;have hlen:((M0 (bw s) 64).map iv).length=64:=by rw[wF,WO]
  generalize M0 (bw s) 64=W at hlen ⊢;refine Ok.app (show (0+8) * 8<=140737488355328 by decide) (Ok.g (Ok.b (R:=λe=>e=l8 (GZ KB W v 64)) ?_ λe he=>?_))
  ·refine Ok.s 64 (by decide) (λk y=>y=(l8 (GZ KB W v k),(k:Int))) rfl (λk y hy hk=>?_) λy hy=>?_
   ·subst hy;rw[GZ];generalize GZ KB W v k=u;have hW:W.length=64:=by grind
    have lookW:(W.map iv)[0+(k:Int).toNat]?=some (iv (BM W k)):=by
     simp_all [zR,zY,wc,wl,BM]
    have lookK:t.fK[(k:Int).toNat]?=some (iv (BM KB k)):=by
     grind [Int.toNat_natCast,Wt,List.getElem?_eq_getElem,CZ,bA,J1]
    refine Ok.t (by simp;omega) ?_;refine Ok.k rfl (Ok.r rfl (x:=iv u.a) rfl (Ok.c (Jf _) λr q=>?_));subst q;refine Ok.k rfl (Ok.r rfl (x:=iv u.b) rfl (Ok.c (Jf _) λr q=>?_));subst q;refine Ok.k rfl (Ok.r rfl (x:=iv u.c) rfl (Ok.c (Jf _) λr q=>?_));subst q;refine Ok.o rfl (Ok.o rfl (Ok.o rfl (Ok.o rfl (Ok.o rfl (Ok.o rfl ?_)))));refine Ok.k rfl (Ok.r rfl (x:=iv u.e) rfl (Ok.c (Jf _) λr q=>?_));subst q;refine Ok.k rfl (Ok.r rfl (x:=iv u.f) rfl (Ok.c (Jf _) λr q=>?_));subst q;refine Ok.k rfl (Ok.r rfl (x:=iv u.g) rfl (Ok.c (Jf _) λr q=>?_));subst q;refine Ok.o rfl (Ok.o rfl (Ok.o rfl (Ok.o rfl (Ok.o rfl (Ok.o rfl ?_)))));refine Ok.k rfl (Ok.r rfl (x:=iv u.h) rfl ?_);refine Ok.o rfl (Ok.c (F5 u.e 6 (by decide)) λr q=>?_);subst q;refine Ok.o rfl (Ok.c (F5 u.e 11 (by decide)) λr q=>?_);subst q;refine Ok.o rfl (Ok.c (F5 u.e 25 (by decide)) λr q=>?_);subst q;refine Ok.c (Wj _ _ _) λr q=>?_;subst q;refine Ok.c (Ui _) λr q=>?_;subst q;refine Ok.o rfl (Ok.o rfl (Ok.c (AQ u.e u.f) λr q=>?_));subst q;refine Ok.o rfl (Ok.c (Qqt u.e) λr q=>?_);subst q;refine Ok.o rfl (Ok.c (AQ _ u.g) λr q=>?_);subst q;refine Ok.c (Ss _ _) λr q=>?_;subst q;refine Ok.c (Ui _) λr q=>?_;subst q;refine Ok.r (by simp) lookK (Ok.k (by grind) (Ok.r rfl lookW ?_));refine Ok.c (Qqp _ _ _ _ _) λr q=>?_;subst q;refine Ok.o rfl (Ok.c (F5 u.a 2 (by decide)) λr q=>?_);subst q;refine Ok.o rfl (Ok.c (F5 u.a 13 (by decide)) λr q=>?_);subst q;refine Ok.o rfl (Ok.c (F5 u.a 22 (by decide)) λr q=>?_);subst q;refine Ok.c (Wj _ _ _) λr q=>?_;subst q;refine Ok.c (Ui _) λr q=>?_;subst q;refine Ok.o rfl (Ok.o rfl (Ok.c (AQ u.a u.b) λr q=>?_));subst q;refine Ok.o rfl (Ok.o rfl (Ok.c (AQ u.a u.c) λr q=>?_));subst q;refine Ok.o rfl (Ok.o rfl (Ok.c (AQ u.b u.c) λr q=>?_));subst q;refine Ok.c (Wj _ _ _) λr q=>?_;subst q;refine Ok.c (Ui _) λr q=>?_;subst q;refine Ok.c (Wu _ _) λr q=>?_;subst q;refine Ok.c (Wu _ _) λr q=>?_;subst q;refine Ok.k rfl (Ok.r rfl (x:=iv u.a) rfl (Ok.k rfl (Ok.r rfl (x:=iv u.b) rfl (Ok.k rfl (Ok.r rfl (x:=iv u.c) rfl (Ok.k rfl (Ok.r rfl (x:=iv u.d) rfl (Ok.c (Wu _ _) λr q=>?_))))))));subst q;refine Ok.k rfl (Ok.r rfl (x:=iv u.e) rfl (Ok.k rfl (Ok.r rfl (x:=iv u.f) rfl (Ok.k rfl (Ok.r rfl (x:=iv u.g) rfl (Ok.g (Ok.g (Ok.d ?_))))))));show (_,_)=_;rw[Z9 hk (by decide)];rfl
   ·subst hy;exact Ok.f rfl (Ok.d rfl)
  ·subst he;generalize GZ KB W v 64=u;refine Ok.g (Ok.b (R:=λe=>e=l8 (v.add u)) ?_ λe he=>Ok.g (Ok.d he));refine Ok.s 8 (by decide) (λk y=>y=((l8 (v.add u)).take k,(k:Int))) rfl (λk y hy hk=>?_) λy hy=>?_
   ·subst hy;have:k=0\/k=1\/k=2\/k=3\/k=4\/k=5\/k=6\/k=7:=by omega
    rcases this with rfl|rfl|rfl|rfl|rfl|rfl|rfl|rfl
    ·exact Ok.t rfl (Ok.r rfl (x:=iv v.a) rfl (Ok.k rfl (Ok.r rfl (x:=iv u.a) rfl (Ok.c (Wu _ _) λr q=>Ok.app (by grind) (Ok.g (Ok.g (Ok.d (by subst q;rfl))))))))
    ·exact Ok.t rfl (Ok.r rfl (x:=iv v.b) rfl (Ok.k rfl (Ok.r rfl (x:=iv u.b) rfl (Ok.c (Wu _ _) λr q=>Ok.app (by grind) (Ok.g (Ok.g (Ok.d (by subst q;rfl))))))))
    ·exact Ok.t rfl (Ok.r rfl (x:=iv v.c) rfl (Ok.k rfl (Ok.r rfl (x:=iv u.c) rfl (Ok.c (Wu _ _) λr q=>Ok.app (by grind) (Ok.g (Ok.g (Ok.d (by subst q;rfl))))))))
    ·exact Ok.t rfl (Ok.r rfl (x:=iv v.d) rfl (Ok.k rfl (Ok.r rfl (x:=iv u.d) rfl (Ok.c (Wu _ _) λr q=>Ok.app (by grind) (Ok.g (Ok.g (Ok.d (by subst q;rfl))))))))
    ·exact Ok.t rfl (Ok.r rfl (x:=iv v.e) rfl (Ok.k rfl (Ok.r rfl (x:=iv u.e) rfl (Ok.c (Wu _ _) λr q=>Ok.app (by grind) (Ok.g (Ok.g (Ok.d (by subst q;rfl))))))))
    ·exact Ok.t rfl (Ok.r rfl (x:=iv v.f) rfl (Ok.k rfl (Ok.r rfl (x:=iv u.f) rfl (Ok.c (Wu _ _) λr q=>Ok.app (by grind) (Ok.g (Ok.g (Ok.d (by subst q;rfl))))))))
    ·exact Ok.t rfl (Ok.r rfl (x:=iv v.g) rfl (Ok.k rfl (Ok.r rfl (x:=iv u.g) rfl (Ok.c (Wu _ _) λr q=>Ok.app (by grind) (Ok.g (Ok.g (Ok.d (by subst q;rfl))))))))
    ·exact Ok.t rfl (Ok.r rfl (x:=iv v.h) rfl (Ok.k rfl (Ok.r rfl (x:=iv u.h) rfl (Ok.c (Wu _ _) λr q=>Ok.app (by grind) (Ok.g (Ok.g (Ok.d (by subst q;rfl))))))))
   ·subst hy;exact Ok.f rfl (Ok.d rfl)
def cZ(t:R6):Prop:=t.gj=l8 vS/\t.fK=J1
theorem gU(t:R6)(ht:cZ t)(s:ze)(hs:s.size<=1000000)(h6:s.size % 64=0)(v:V8):Qy (vN t (l8 v) s) (λr=>r=l8 (A6 s v)):=by
 unfold vN;refine Qy.fn ?_;unfold Qmi;refine Ok.b (R:=λe=>e=l8 (A6 s v)) ?_ λe he=>Ok.d he;refine Ok.s (s.size / 64) (by omega) (λk y=>y=(l8 (Ht s v k),((64 * k:Nat):Int))) rfl (λk y hy hk=>?_) λy hy=>?_
 ·subst hy;have e1:Q0 (((64 * k:Nat):Int)+64)=((64 * k+64:Nat):Int):=by grind [Z4]
  simp only[e1,zR];have ez:(s.extract (64 * k) (64 * k+64)).size=64:=by rw[ByteArray.size_extract];omega
  exact Ok.t (by simp;omega) (Ok.k (by simp;omega) (Ok.c (hG t ht.2 _ _ ez) λr hr=>Ok.d (by rw[hr];rfl)))
 grind [Ok.f,Z4,Ok.d,l8,Ht,A6]
theorem uJ(n:Nat)(x:Int):List.replicate n x++[x]=List.replicate (n+1) x:=by
 rw[List.replicate_succ']
theorem Qqs(k:Nat)(n:Int)(h0:0<=n)(h:n < 9223372036854775808)(hk:k<=100):Qy (iM (k:Int) n) (λr=>r=strOfNums (Jh k n)):=by
 unfold iM;refine Qy.fn ?_;unfold g83;refine Ok.b (R:=λe=>e=strOfNums (Jh k n)) ?_ λe he=>Ok.d he;refine Ok.s k (by omega) (λi y=>∃m l,y=(m,strOfNums l,(i:Int))/\0<=m/\m < 9223372036854775808/\l.length=i/\Jh k n=Jh (k - i) m++l) ⟨n,[],rfl,h0,h,rfl,by simp⟩ (λi y hy hi=>?_) λy hy=>?_
 ·obtain⟨m,l,rfl,h1,h2,hl,hb⟩:=hy;have em:Int.tmod m 256=m % 256:=(by grind);have ed:Int.tdiv m 256=m / 256:=(by grind);refine Ok.t (by simp;omega) (Ok.k ?_ (Ok.d ⟨m / 256,m % 256 :: l,?_,by omega,by omega,by simp[hl],?_⟩))
  ·simp only[strOfNums_size,zI];grind
  ·show (Q0 (Int.tdiv m 256),strOfNums [Qk (Int.tmod m 256)]++strOfNums l,Q0 ((i:Int)+1))=_;rw[ed,em,Z4 (by omega) (by omega),Z9 hi (by omega),B9,<-T1,show m % 256 % 256=m % 256 by omega];rfl
  ·rw[hb,show k - i=(k - (i+1))+1 by omega,Jh];simp
 ·obtain⟨m,l,rfl,h1,h2,hl,hb⟩:=hy;refine Ok.f (by simp) (Ok.d ?_);rw[hb,Nat.sub_self];rfl
theorem Sc(s:ze)(n:Nat)(hs:s.size=n % 64)(hn:n<=1000000):Qy (vG s (n:Int)) (λr=>r=s++pad n):=by
 unfold vG;refine Qy.fn ?_;unfold Qma;have z1:(bs [128]).size=1:=rfl;have z0:(bs [0]).size=1:=rfl;have zr:∀j:Nat,((s++bs [128])++strOfNums (List.replicate j 0)).size=n % 64+1+j:=(by grind [ByteArray.size_append,strOfNums_size,List.length_replicate]);refine Ok.k (by grind) (Ok.b (R:=λe=>e=(s++bs [128])++strOfNums (List.replicate ((119 - n % 64) % 64) 0)) ?_ λe he=>?_)
 ·refine Ok.s ((119 - n % 64) % 64) (by omega) (λk y=>y=(s++bs [128])++strOfNums (List.replicate k 0)) (ByteArray.append_empty).symm (λk y hy hk=>?_) λy hy=>?_
  ·grind [Int.tmod_eq_emod_of_nonneg,Ok.t,Ok.k,Ok.d,ByteArray.append_assoc,T1,uJ,Int.tmod,bs,strOfNums,List.replicate]
  ·subst hy;have em:Int.tmod (((s++bs [128])++strOfNums (List.replicate ((119 - n % 64) % 64) 0)).size:Int) 64=56:=by grind
   exact Ok.f (by rw[em];rfl) (Ok.d rfl)
 ·subst he;have e8:Q0 ((8:Int) * (n:Int))=8 * (n:Int):=Z4 (by omega) (by omega);refine Ok.b (R:=λe=>e=((s++bs [128])++strOfNums (List.replicate ((119 - n % 64) % 64) 0),strOfNums (Jh 8 (8 * (n:Int))))) ?_ λe he=>?_
  ·refine Ok.s 8 (by decide) (λi y=>∃m l,y=(m,strOfNums l,(i:Int))/\0<=m/\m < 9223372036854775808/\l.length=i/\Jh 8 (8 * (n:Int))=Jh (8 - i) m++l) ⟨8 * (n:Int),[],by rw[e8];rfl,by omega,by omega,rfl,by simp⟩ (λi y hy hi=>?_) λy hy=>?_
   ·obtain⟨m,l,rfl,h1,h2,hl,hb⟩:=hy;have em:Int.tmod m 256=m % 256:=(by grind);have ed:Int.tdiv m 256=m / 256:=(by grind);refine Ok.t (by simp;omega) (Ok.k ?_ (Ok.d ⟨m / 256,m % 256 :: l,?_,by omega,by omega,by simp[hl],?_⟩))
    ·simp only[strOfNums_size,zI];grind
    ·show (Q0 (Int.tdiv m 256),strOfNums [Qk (Int.tmod m 256)]++strOfNums l,Q0 ((i:Int)+1))=_;rw[ed,em,Z4 (by omega) (by omega),Z9 hi (by omega),B9,<-T1,show m % 256 % 256=m % 256 by omega];rfl
    ·rw[hb,show 8 - i=(8 - (i+1))+1 by omega,Jh];simp
   ·obtain⟨m,l,rfl,h1,h2,hl,hb⟩:=hy;refine Ok.f (by simp) (Ok.d ?_);rw[hb,Nat.sub_self];rfl
  grind [Ok.k,strOfNums_size,Hk,Ok.d,ByteArray.append_assoc,pad]
theorem Qy2(v:V8){k:Nat}{x:Int}(h:(l8 v)[k]?=some x):0<=x/\x < 4294967296:=by
 have:=zX h;simp only[l8,zV,wa,or_false] at this;rcases this with rfl|rfl|rfl|rfl|rfl|rfl|rfl|rfl<;>exact Yu _
theorem TP(v:V8):Qy (vR (l8 v)) (λr=>r=TF v):=by
 unfold vR;refine Qy.fn ?_;unfold Qmo TF;have hl:(l8 v).length=8:=rfl;have hx:=@Qy2 v;generalize l8 v=L at hl hx ⊢;refine Ok.b (R:=λe=>e=strOfNums (L.flatMap (Jh 4))) ?_ λe he=>Ok.d he;refine Ok.s 8 (by decide) (λk y=>y=(strOfNums ((L.take k).flatMap (Jh 4)),(k:Int))) rfl (λk y hy hk=>?_) λy hy=>?_
 ·subst hy;obtain⟨x,h1,h2⟩:=N3 (l:=L) (k:=k) (by omega);have hr:=hx h2;have zk:((L.take k).flatMap (Jh 4)).length=4 * k:=by
   rw[List.length_flatMap];simp only[Hk,List.map_const',List.sum_replicate_nat,wZ,hl];omega
  refine Ok.t (by grind [Jn]) (Ok.r (by simp) h1 (Ok.c (show Qy _ _ from Qqs 4 x hr.1 (by omega) (by decide)) λr hr=>?_));grind [Ok.k,strOfNums_size,Hk,Ok.d,Z9,T1,List.take_add_one,Q0]
 grind [Ok.f,Jn,Ok.d,List.take_of_length_le,strOfNums]
theorem Qqr(t:R6)(ht:cZ t)(s:ze)(hs:s.size<=500000):Qy (s82 t s) (λr=>r=Oo s vS):=by
 unfold s82;refine Qy.fn ?_;unfold g82;have e1:Int.tdiv (s.size:Int) 64=((s.size / 64:Nat):Int):=by grind
 have e2:Q0 ((Q0 (Int.tdiv (s.size:Int) 64)) * 64)=((64 * (s.size / 64):Nat):Int):=by
  grind [Z4]
 simp only[e2,zR];have hz:(s.extract (64 * (s.size / 64)) s.size).size=s.size % 64:=by rw[ByteArray.size_extract];omega
 have h0:(s.extract 0 (64 * (s.size / 64))).size=64 * (s.size / 64):=by rw[ByteArray.size_extract];omega
 have hm:s.extract 0 (64 * (s.size / 64))++(s.extract (64 * (s.size / 64)) s.size++pad s.size)=s++pad s.size:=by
  rw[<-ByteArray.append_assoc,ByteArray.extract_append_extract,Nat.min_eq_left (by omega),Nat.max_eq_right (by omega),ByteArray.extract_zero_size]
 have hp:=NQ s.size
 have hT:(s++pad s.size).size % 64=0:=by grind
 have hT2:(s++pad s.size).size<=1000000:=by grind
 refine Ok.k (by simp;omega) (Ok.k (by simp;omega) (Ok.c (Sc _ s.size hz (by omega)) λr hr=>?_));subst hr;refine Ok.k (by grind) ?_;rw[hm,ht.1];exact Ok.c (gU t ht _ hT2 hT vS) λr hr=>by subst hr;exact Ok.c (TP _) λr hr=>Ok.d hr
end Go.Proofs.YtjdieimefebnfaaGreatDoor
