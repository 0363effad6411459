/- Part X15. -/
import Derived.Test.YtjdieimefebnfaaGreatDoorX14
set_option linter.all false
set_option maxRecDepth 100000
namespace Go.Proofs.YtjdieimefebnfaaGreatDoor
open Go Go.EV Crv
theorem Kq(b:Bool)(x a:Q5)(hx:Hx x)(ha:Hx a):Qy (Sz b x a) (λr=>Hx r/\fN r=(if b then fN x * fN x % nP * fN a % nP else fN x * fN x % nP)):=by
 show Ok (Qyg b x a) _;grind [Ok.c,S6,Ok.e,Ok.d,Qyg]
theorem lR(a n:Nat):a ^ n % nP * (a ^ n % nP) % nP=a ^ (2 * n) % nP:=by rw[<-Nat.mul_mod,<-Nat.pow_add];congr 2;omega
theorem NX(a n:Nat):a ^ n % nP * (a ^ n % nP) % nP * a % nP=a ^ (2 * n+1) % nP:=by rw[lR,Nat.pow_succ,Nat.mod_mul_mod]
theorem FJ:Hx ⟨1,0,0,0,0⟩:=by unfold Hx;decide
theorem kQ:fN ⟨1,0,0,0,0⟩=1:=by decide +kernel
theorem Qzm(a:Q5)(ha:Hx a):Qy (vJ a) (λr=>Hx r/\fN r=Gu (fN a)):=by
 unfold vJ;refine Qy.fn ?_;unfold Qkc;refine Ok.b (R:=λe=>Hx e/\∃n,n=2 ^ 250 - 1/\fN e=fN a ^ n % nP) (Ok.s 250 (by decide) (λk y=>Hx y.1/\(∃n,n=2 ^ k - 1/\fN y.1=fN a ^ n % nP)/\y.2=(k:Int)) ⟨FJ,⟨0,rfl,by rw[kQ,Nat.pow_zero];rfl⟩,rfl⟩ (λk y hy hk=>?_) λy hy=>?_) λe he=>?_
 ·obtain⟨x,i⟩:=y;obtain⟨h1,⟨n,hn,h2⟩,rfl⟩:Hx x/\(∃n,n=2 ^ k - 1/\fN x=fN a ^ n % nP)/\i=(k:Int):=hy;refine Ok.t (by grind) (Ok.c (Kq true x a h1 ha) λr hr=>Ok.d ⟨hr.1,⟨2 * n+1,?_,?_⟩,Y0 hk (by decide)⟩)
  ·grind
  ·rw[hr.2,if_pos rfl,h2,NX]
 ·obtain⟨x,i⟩:=y;obtain⟨h1,h2,rfl⟩:Hx x/\(∃n,n=2 ^ 250 - 1/\fN x=fN a ^ n % nP)/\i=((250:Nat):Int):=hy;exact Ok.f rfl (Ok.d ⟨h1,h2⟩)
 ·obtain⟨h1,n,hn,h2⟩:=he;refine Ok.tt (Ok.c (Kq false e a h1 ha) λr1 q1=>Ok.tt (Ok.c (Kq true r1 a q1.1 ha) λr2 q2=>Ok.tt (Ok.c (Kq false r2 a q2.1 ha) λr3 q3=>Ok.tt (Ok.c (Kq true r3 a q3.1 ha) λr4 q4=>Ok.tt (Ok.c (Kq true r4 a q4.1 ha) λr5 q5=>Ok.ff (Ok.d ⟨q5.1,?_⟩))))));have e1:fN r1=fN a ^ (2 * n) % nP:=by rw[q1.2,if_neg (by decide),h2,lR]
  have e2:fN r2=fN a ^ (2 * (2 * n)+1) % nP:=by rw[q2.2,if_pos rfl,e1,NX]
  have e3:fN r3=fN a ^ (2 * (2 * (2 * n)+1)) % nP:=by rw[q3.2,if_neg (by decide),e2,lR]
  have e4:fN r4=fN a ^ (2 * (2 * (2 * (2 * n)+1))+1) % nP:=by rw[q4.2,if_pos rfl,e3,NX]
  have e5:fN r5=fN a ^ (2 * (2 * (2 * (2 * (2 * n)+1))+1)+1) % nP:=by rw[q5.2,if_pos rfl,e4,NX]
  have en:2 * (2 * (2 * (2 * (2 * n)+1))+1)+1=nP - 2:=by rw[hn];decide +kernel
  rw[e5,en];unfold Gu;rw[Lz _ _ _ _ (by decide +kernel),Nat.one_mul]
def M5(w N k j:Nat):Nat:=N % 2 ^ k / 2 ^ (w * j) % 2 ^ w
theorem Le(w N j:Nat):M5 w N 0 j=0:=by unfold M5;rw[Nat.pow_zero,Nat.mod_one,Nat.zero_div,Nat.zero_mod]
theorem FV(w N k j:Nat):M5 w N k j < 2 ^ w:=Nat.mod_lt _ (Nat.two_pow_pos _)
theorem mod_succ(N k:Nat):N % 2 ^ (k+1)=N % 2 ^ k+2 ^ k * (N / 2 ^ k % 2):=by rw[Nat.pow_succ,Nat.mod_mul]
theorem RC(N k:Nat):N / 2 ^ k % 2 < 2:=Nat.mod_lt _ (by decide)
theorem SB{w N k j r:Nat}(hk:k=w * j+r)(hr:r < w):N % 2 ^ k / 2 ^ (w * j) < 2 ^ r:=by
 simp_all [Nat.div_lt_iff_lt_mul,Nat.two_pow_pos,Nat.pow_add,Nat.add_comm,Nat.mod_lt]
theorem CD{w N k j r:Nat}(hk:k=w * j+r)(hr:r < w):M5 w N k j < 2 ^ r/\M5 w N (k+1) j=M5 w N k j+N / 2 ^ k % 2 * 2 ^ r:=by
 have h1:=SB (N:=N) hk hr;have h2:(2:Nat) ^ r * 2<=2 ^ w:=by rw[<-Nat.pow_succ];exact Nat.pow_le_pow_right (by decide) hr
 have hb:=RC N k;have e0:M5 w N k j=N % 2 ^ k / 2 ^ (w * j):=Nat.mod_eq_of_lt (by omega);refine⟨by grind,?_⟩;have key:∀b,2 ^ k * b=2 ^ (w * j) * (b * 2 ^ r):=(by grind)
 have e1:N % 2 ^ (k+1) / 2 ^ (w * j)=N % 2 ^ k / 2 ^ (w * j)+N / 2 ^ k % 2 * 2 ^ r:=by
  rw[mod_succ,key,Nat.add_mul_div_left _ _ (Nat.two_pow_pos _)]
 have l2:N % 2 ^ k / 2 ^ (w * j)+N / 2 ^ k % 2 * 2 ^ r < 2 ^ w:=by
  rcases qa (N / 2 ^ k % 2) 1 with h|h
  ·grind
  grind
 grind [Nat.mod_eq_of_lt,M5]
theorem Vv{w N k j q r:Nat}(hk:k=w * q+r)(hr:r < w)(hj:j≠q):M5 w N (k+1) j=M5 w N k j:=by
 unfold M5;rw[mod_succ];rcases qa j q with h|h
 ·have hw:w * j+w<=k:=by
   have:=Nat.mul_le_mul_left w (show j+1<=q from h);grind
  have e:2 ^ k * (N / 2 ^ k % 2)=2 ^ (w * j) * (2 ^ w * (2 ^ (k - (w * j+w)) * (N / 2 ^ k % 2))):=by
   rw[<-Nat.mul_assoc,<-Nat.mul_assoc,<-Nat.pow_add,<-Nat.pow_add,show w * j+w+(k - (w * j+w))=k by omega]
  rw[e,Nat.add_mul_div_left _ _ (Nat.two_pow_pos _),Nat.add_mul_mod_self_left]
 ·have hw:k+1<=w * j:=by
   have:=Nat.mul_le_mul_left w (show q+1<=j by omega);grind
  have l1:N % 2 ^ k < 2 ^ k:=Nat.mod_lt _ (Nat.two_pow_pos _);have l2:(2:Nat) ^ k * 2<=2 ^ (w * j):=by rw[<-Nat.pow_succ];simp_all [Nat.pow_le_pow_right]
  have hb:=RC N k;have l3:N % 2 ^ k+2 ^ k * (N / 2 ^ k % 2) < 2 ^ (w * j):=by
   rcases qa (N / 2 ^ k % 2) 1 with h|h
   ·grind
   grind
  rw[Nat.div_eq_of_lt l3,Nat.div_eq_of_lt (by omega)]
theorem xV{w N q r:Nat}(hr:r < w):N / 2 ^ (w * q) % 2 ^ w / 2 ^ r % 2=N / 2 ^ (w * q+r) % 2:=by
 have e:(2:Nat) ^ w=2 ^ r * 2 ^ (w - r):=by rw[<-Nat.pow_add,show r+(w - r)=w by omega]
 rw[e,Nat.mod_mul_right_div_self,Nat.div_div_eq_div_mul,<-Nat.pow_add];have e2:(2:Nat) ^ (w - r)=2 * 2 ^ (w - r - 1):=by rw[wX,<-Nat.pow_succ];congr 1;omega
 simp_all
def Oz(f:Nat->Nat):Nat->Nat
 | 0=>0
 | n+1=>Oz f n+f n * 256 ^ n
theorem SV{f:Nat->Nat}(hf:∀i,f i < 256):∀n,Oz f n < 256 ^ n
 | 0=>Nat.one_pos
 | n+1=>by
  have h:=SV hf n;have:=wT (256 ^ n) (show f n<=255 by have:=hf n;omega);grind [Nat.pow_succ,Oz]
theorem mS{f:Nat->Nat}(hf:∀i,f i < 256):∀{n i:Nat},i < n->Oz f n / 256 ^ i % 256=f i
 | n+1,i,h=>by
  show (Oz f n+f n * 256 ^ n) / 256 ^ i % 256=f i;rcases qa i n with h1|h1
  ·have e:f n * 256 ^ n=256 ^ i * (256 * (f n * 256 ^ (n - i - 1))):=by
    have:(256:Nat) ^ n=256 ^ i * (256 * 256 ^ (n - i - 1)):=by rw[<-Nat.mul_assoc,<-Nat.pow_succ,<-Nat.pow_add];congr 1;omega
    grind
   rw[e,Nat.add_mul_div_left _ _ (Nat.pow_pos (by decide)),Nat.add_mul_mod_self_left];exact mS hf h1
  ·obtain rfl:i=n:=by omega
   rw[wX,Nat.add_mul_div_left _ _ (Nat.pow_pos (by decide)),Nat.div_eq_of_lt (SV hf _),we,Nat.mod_eq_of_lt (hf _)]
def on(s:ze)(i:Nat):Nat:=(s.data.getD i 0).toNat
theorem WW(s:ze)(i:Nat):QQ s (i:Int)=((on s i:Nat):Int):=by unfold QQ on;grind
theorem Ux(s:ze)(i:Nat):on s i < 256:=UInt8.toNat_lt _
def Yr(s:ze):Nat:=Oz (on s) 32
theorem GH:∀c:Fin 256,∀k:Fin 8,U1 .u8 (Z5 .u8 ((c.val:Nat):Int) ((k.val:Nat):Int)) 1=((c.val / 2 ^ k.val % 2:Nat):Int):=by decide +kernel
theorem Qqb:∀k:Fin 8,∀x:Fin 256,∀b:Fin 2,x.val < 2 ^ k.val->Zl .u8 ((x.val:Nat):Int) (E0 .u8 ((b.val:Nat):Int) ((k.val:Nat):Int))=((x.val+b.val * 2 ^ k.val:Nat):Int):=by decide +kernel
theorem td(k n:Nat):Int.tdiv (k:Int) (n:Int)=((k / n:Nat):Int):=(Int.ofNat_tdiv k n).symm
theorem tm(k n:Nat):Int.tmod (k:Int) (n:Int)=((k % n:Nat):Int):=(Int.ofNat_tmod k n).symm
theorem td8(k:Nat)(h:k < 1000):Q0 (Int.tdiv (k:Int) 8)=((k / 8:Nat):Int):=by rw[show (8:Int)=((8:Nat):Int) from rfl,td,Z2 (by omega) (by omega)]
theorem tm8(k:Nat):Int.tmod (k:Int) 8=((k % 8:Nat):Int):=tm k 8
theorem Qup(k:Nat)(h:k < 1000):Q0 (Int.tdiv (k:Int) 51)=((k / 51:Nat):Int):=by rw[show (51:Int)=((51:Nat):Int) from rfl,td,Z2 (by omega) (by omega)]
theorem Qun(k:Nat):Int.tmod (k:Int) 51=((k % 51:Nat):Int):=tm k 51
theorem BU(f:Nat->Nat)(hf:∀i,f i < 256){n k:Nat}(h:k / 8 < n):f (k / 8) / 2 ^ (k % 8) % 2=Oz f n / 2 ^ k % 2:=by
 rw[<-mS hf h,show (256:Nat) ^ (k / 8)=2 ^ (8 * (k / 8)) by rw[Nat.pow_mul],show (256:Nat)=2 ^ 8 from rfl,xV (Nat.mod_lt _ (by decide)),Nat.div_add_mod]
theorem Qqs{x r:Nat}(hx:x < 2 ^ r)(hr:r < 51):Zl .u64 (x:Int) (E0 .u64 1 (r:Int))=((x+1 * 2 ^ r:Nat):Int):=by
 have h2:(2:Nat) ^ r * 2<=2 ^ 51:=by rw[<-Nat.pow_succ];exact Nat.pow_le_pow_right (by decide) hr
 rw[show E0 .u64 1 (r:Int)=_ from pC 1 r (by omega)];have e:(1:Int) * 2 ^ r % 18446744073709551616=((2 ^ r:Nat):Int):=by
  grind
 rw[e,Qhp x (2 ^ r) (by omega) (by omega),Nat.or_comm];have k:=Nat.two_pow_add_eq_or_of_lt hx 1;grind
def Ih(N k:Nat):Q5:=⟨(M5 51 N k 0:Nat),(M5 51 N k 1:Nat),(M5 51 N k 2:Nat),(M5 51 N k 3:Nat),(M5 51 N k 4:Nat)⟩
theorem SC(w N:Nat){k q:Nat}(hw:0 < w)(hq:k / w=q)(j:Nat):M5 w N (k+1) j=M5 w N k j+if j=q then N / 2 ^ k % 2 * 2 ^ (k % w) else 0:=by
 have hk:k=w * q+k % w:=by rw[<-hq,Nat.div_add_mod]
 by_cases h:j=q
 ·subst h;rw[if_pos rfl];exact(CD hk (Nat.mod_lt _ hw)).2
 ·rw[if_neg h];exact Vv hk (Nat.mod_lt _ hw) h
theorem mN(w N:Nat){k q:Nat}(hw:0 < w)(hq:k / w=q):M5 w N k q < 2 ^ (k % w):=(CD (by rw[<-hq,Nat.div_add_mod]) (Nat.mod_lt _ hw)).1
theorem CM(N:Nat):Hx (Ih N 255)/\fv (Ih N 255)=((N % 2 ^ 255:Nat):Int):=by
 grind [Nat.mod_lt,Ih,M5,Hx,fv,v5,Nat.reduceMul,Nat.reducePow]
theorem Qwq{N k:Nat}(h:N / 2 ^ k % 2=0):Ih N (k+1)=Ih N k:=by
 unfold Ih;simp only[SC 51 N (k:=k) (q:=k / 51) (by decide) rfl,h];simp
theorem Qw9{N k:Nat}(h:N / 2 ^ k % 2=1)(q:Nat)(hq:k / 51=q) :
  (⟨if q=0 then Zl .u64 ((M5 51 N k 0:Nat):Int) (E0 .u64 1 ((k % 51:Nat):Int)) else (M5 51 N k 0:Nat),if q=1 then Zl .u64 ((M5 51 N k 1:Nat):Int) (E0 .u64 1 ((k % 51:Nat):Int)) else (M5 51 N k 1:Nat),
   if q=2 then Zl .u64 ((M5 51 N k 2:Nat):Int) (E0 .u64 1 ((k % 51:Nat):Int)) else (M5 51 N k 2:Nat),if q=3 then Zl .u64 ((M5 51 N k 3:Nat):Int) (E0 .u64 1 ((k % 51:Nat):Int)) else (M5 51 N k 3:Nat),
   if q=4 then Zl .u64 ((M5 51 N k 4:Nat):Int) (E0 .u64 1 ((k % 51:Nat):Int)) else (M5 51 N k 4:Nat)⟩:Q5)=Ih N (k+1):=by
 have sb:=mN 51 N (k:=k) (q:=q) (by decide) hq;have hr:k % 51 < 51:=Nat.mod_lt _ (by decide);have one:∀j,(if q=j then Zl .u64 ((M5 51 N k j:Nat):Int) (E0 .u64 1 ((k % 51:Nat):Int)) else ((M5 51 N k j:Nat):Int))=((M5 51 N (k+1) j:Nat):Int):=λj=>by
  rw[SC 51 N (k:=k) (q:=q) (by decide) hq j,h];by_cases e:q=j
  ·subst e;rw[if_pos rfl,if_pos rfl,Qqs sb hr]
  grind
 rw[one 0,one 1,one 2,one 3,one 4];rfl
theorem GU{x:Nat}(h:(((x:Nat):Int)==1)=true):x=1:=(by grind)
theorem IP{x:Nat}(hx:x < 2)(h:(((x:Nat):Int)==1)=false):x=0:=by
 grind
theorem lF(s:ze)(hs:s.size=32)(N:Nat)(hN:∀k,k < 255->on s (k / 8) / 2 ^ (k % 8) % 2=N / 2 ^ k % 2):Qy (oV s) (λr=>r=Ih N 255):=by
 unfold oV;refine Qy.fn ?_;unfold Qm0;refine Ok.b (R:=λe=>e=Ih N 255) (Ok.s 255 (by decide) (λk y=>y=(Ih N k,(k:Int))) ?_ (λk y hy hk=>?_) λy hy=>?_) λe he=>Ok.d he
 ·grind [Le,Ih]
 ·subst hy;refine Ok.t (by grind) ?_;have e1:U1 .u8 (Z5 .u8 (QQ s (Q0 (Int.tdiv (k:Int) 8))) (Int.tmod (k:Int) 8)) 1=((N / 2 ^ k % 2:Nat):Int):=by
   rw[td8 k (by omega),tm8,WW,GH ⟨on s (k / 8),Ux _ _⟩ ⟨k % 8,Nat.mod_lt _ (by decide)⟩,<-hN k hk]
  have e2:=td8 k (by omega);have e3:=Qup k (by omega);have hb:=RC N k;refine Ok.k (by grind) (Ok.k (by grind) (Ok.e (λhc=>?_) λhc=>?_))
  ·have hc:(U1 .u8 (Z5 .u8 (QQ s (Q0 (Int.tdiv (k:Int) 8))) (Int.tmod (k:Int) 8)) 1==1)=true:=hc;rw[e1] at hc;have h1:=GU hc;have hm:(decide ((0:Int)<=Int.tmod (k:Int) 51))=true:=by grind
   have hq5:k / 51=0\/k / 51=1\/k / 51=2\/k / 51=3\/k / 51=4:=by omega
   have ew:=Y0 hk (n:=255) (by decide);have et:=Qun k;rcases hq5 with h|h|h|h|h;all_goals
    have hm1:=Qw9 h1 _ h;rw[h] at e3;refine Ok.Ko (by grind) ?_;grind [Ok.k,Ok.d,Ok,Q0,Int.tdiv,Ih]
  ·have hc:(U1 .u8 (Z5 .u8 (QQ s (Q0 (Int.tdiv (k:Int) 8))) (Int.tmod (k:Int) 8)) 1==1)=false:=hc;rw[e1] at hc;refine Ok.d ?_;show (Ih N k,Q0 ((k:Int)+1))=(Ih N (k+1),((k+1:Nat):Int));rw[Y0 hk (by decide),Qwq (IP hb hc)]
 ·subst hy;exact Ok.f rfl (Ok.d rfl)
theorem gF(s:ze)(hs:s.size=32):Qy (oV s) (λr=>r=Ih (Yr s) 255):=
 lF s hs (Yr s) λk hk=>BU (on s) (Ux s) (n:=32) (k:=k) (by omega)
def OZ(n:Nat):ze:=strOfNums (I1 λj=>((M5 8 n 255 j:Nat):Int))
theorem lA(f:Nat->Int)(q:Nat)(v:Int):((List.range 32).map f).set q v=(List.range 32).map λj=>if j=q then v else f j:=by
 refine List.ext_getElem? λi=>?_;grind
theorem tight(y:Q5)(hy:Hx y):∀x,x=bQ y.a0 y.a1 y.a2 y.a3 y.a4->∀z,z=bQ x.a0 x.a1 x.a2 x.a3 x.a4->(wide x.a0/\wide x.a1/\wide x.a2/\wide x.a3/\wide x.a4)/\(0<=z.a0/\z.a0 < 2251799813685248)/\(0<=z.a1/\z.a1 < 2251799813685248)/\(0<=z.a2/\z.a2 < 2251799813685248)/\(0<=z.a3/\z.a3 < 2251799813685248)/\(0<=z.a4/\z.a4 < 2251799813685248):=by
 obtain⟨a0,a1,a2,a3,a4⟩:=y;obtain⟨h0,h1,h2,h3,h4⟩:=hy;rintro _ rfl _ rfl;unfold bQ;simp only at *;omega
theorem Rm{W:Nat}{y0 y1 y2 y3 y4:Int}(h0:0<=y0/\y0 < 2251799813685248)(h1:0<=y1/\y1 < 2251799813685248)(h2:0<=y2/\y2 < 2251799813685248)(h3:0<=y3/\y3 < 2251799813685248)(h4:0<=y4/\y4 < 2251799813685248)(hW:(W:Int)=v5 y0 y1 y2 y3 y4):Ih W 255=⟨y0,y1,y2,y3,y4⟩:=by
 grind [Nat.mod_eq_of_lt,v5,Ih,M5,Nat.reduceMul,Nat.reducePow]
theorem lI(z:Q5)(h0:0<=z.a0/\z.a0 < 2251799813685248)(h1:0<=z.a1/\z.a1 < 2251799813685248)(h2:0<=z.a2/\z.a2 < 2251799813685248)(h3:0<=z.a3/\z.a3 < 2251799813685248)(h4:0<=z.a4/\z.a4 < 2251799813685248) :
  (if 0 < (z.a4+(z.a3+(z.a2+(z.a1+(z.a0+19) / 2251799813685248) / 2251799813685248) / 2251799813685248) / 2251799813685248) / 2251799813685248 then
   (⟨(z.a0+19) % 2251799813685248,(z.a1+(z.a0+19) / 2251799813685248) % 2251799813685248,(z.a2+(z.a1+(z.a0+19) / 2251799813685248) / 2251799813685248) % 2251799813685248,(z.a3+(z.a2+(z.a1+(z.a0+19) / 2251799813685248) / 2251799813685248) / 2251799813685248) % 2251799813685248,(z.a4+(z.a3+(z.a2+(z.a1+(z.a0+19) / 2251799813685248) / 2251799813685248) / 2251799813685248) / 2251799813685248) % 2251799813685248⟩:Q5)
   else z)=Ih (fN z) 255:=by
 obtain⟨a0,a1,a2,a3,a4⟩:=z;have hm:((fN ⟨a0,a1,a2,a3,a4⟩:Nat):Int)=v5 a0 a1 a2 a3 a4 % 57896044618658097711785492504343953926634992332820282019728792003956564819949:=Jt (v5 a0 a1 a2 a3 a4);generalize fN ⟨a0,a1,a2,a3,a4⟩=W at *;dsimp only at h0 h1 h2 h3 h4 ⊢;have key:∀a:Int,a=a / 2251799813685248 * 2251799813685248+a % 2251799813685248/\0<=a % 2251799813685248/\a % 2251799813685248 < 2251799813685248:=λa=>by omega
 have k0:=key (a0+19);generalize (a0+19) / 2251799813685248=u0 at *;generalize (a0+19) % 2251799813685248=y0 at *;have k1:=key (a1+u0);generalize (a1+u0) / 2251799813685248=u1 at *;generalize (a1+u0) % 2251799813685248=y1 at *;have k2:=key (a2+u1);generalize (a2+u1) / 2251799813685248=u2 at *;generalize (a2+u1) % 2251799813685248=y2 at *;have k3:=key (a3+u2);generalize (a3+u2) / 2251799813685248=u3 at *;generalize (a3+u2) % 2251799813685248=y3 at *;have k4:=key (a4+u3);generalize (a4+u3) / 2251799813685248=u4 at *;generalize (a4+u3) % 2251799813685248=y4 at *;clear key;have e:v5 a0 a1 a2 a3 a4+19=v5 y0 y1 y2 y3 y4+57896044618658097711785492504343953926634992332820282019728792003956564819968 * u4:=by unfold v5;omega
 have hV:0<=v5 a0 a1 a2 a3 a4/\v5 a0 a1 a2 a3 a4 < 57896044618658097711785492504343953926634992332820282019728792003956564819968:=by unfold v5;omega
 have hY:0<=v5 y0 y1 y2 y3 y4/\v5 y0 y1 y2 y3 y4 < 57896044618658097711785492504343953926634992332820282019728792003956564819968:=by unfold v5;omega
 by_cases h:0 < u4
 ·rw[if_pos h];grind [Rm]
 ·rw[if_neg h];grind [Rm]
theorem Qzk(a:Q5)(ha:Hx a):Qy (vY a) (λr=>r=OZ (fN a)):=by
 have ha':=ha;obtain⟨h0,h1,h2,h3,h4⟩:=ha';unfold vY;refine Qy.fn ?_;unfold Qkb;obtain⟨wx,z0,z1,z2,z3,z4⟩:=tight a ha _ rfl _ rfl;refine Ok.c (AP a.a0 a.a1 a.a2 a.a3 a.a4 ⟨by omega,by omega⟩ ⟨by omega,by omega⟩ ⟨by omega,by omega⟩ ⟨by omega,by omega⟩ ⟨by omega,by omega⟩) λx hx=>?_;have ex:fN x=fN a:=by rw[hx,xK];rfl
 rw[<-hx] at wx z0 z1 z2 z3 z4;refine Ok.c (AP x.a0 x.a1 x.a2 x.a3 x.a4 wx.1 wx.2.1 wx.2.2.1 wx.2.2.2.1 wx.q) λz hz=>?_;have ez:fN z=fN a:=by rw[<-ex,hz,xK];rfl
 rw[<-hz] at z0 z1 z2 z3 z4;clear hx hz wx h0 h1 h2 h3 h4;refine Ok.tt (Ok.tt (Ok.tt (Ok.tt (Ok.tt (Ok.ff ?_)))));have hrest:=lI z z0 z1 z2 z3 z4;rw[ez] at hrest;rw[Int.add_zero,U2 (n:=z.a0+19) (by omega) (by omega),U2 (n:=z.a0+19) (by omega) (by omega),DE (a:=z.a0+19) (by omega),Xz (a:=z.a0+19) (by omega) (by omega)];have c0:0<=(z.a0+19) / 2251799813685248/\(z.a0+19) / 2251799813685248<=1:=by omega
 rw[U2 (n:=z.a1+(z.a0+19) / 2251799813685248) (by omega) (by omega),DE (a:=z.a1+(z.a0+19) / 2251799813685248) (by omega),Xz (a:=z.a1+(z.a0+19) / 2251799813685248) (by omega) (by omega)];have c1:0<=(z.a1+(z.a0+19) / 2251799813685248) / 2251799813685248/\(z.a1+(z.a0+19) / 2251799813685248) / 2251799813685248<=1:=by omega
 rw[U2 (n:=z.a2+(z.a1+(z.a0+19) / 2251799813685248) / 2251799813685248) (by omega) (by omega),DE (a:=z.a2+(z.a1+(z.a0+19) / 2251799813685248) / 2251799813685248) (by omega),Xz (a:=z.a2+(z.a1+(z.a0+19) / 2251799813685248) / 2251799813685248) (by omega) (by omega)];have c2:0<=(z.a2+(z.a1+(z.a0+19) / 2251799813685248) / 2251799813685248) / 2251799813685248/\(z.a2+(z.a1+(z.a0+19) / 2251799813685248) / 2251799813685248) / 2251799813685248<=1:=by omega
 rw[U2 (n:=z.a3+(z.a2+(z.a1+(z.a0+19) / 2251799813685248) / 2251799813685248) / 2251799813685248) (by omega) (by omega),DE (a:=z.a3+(z.a2+(z.a1+(z.a0+19) / 2251799813685248) / 2251799813685248) / 2251799813685248) (by omega),Xz (a:=z.a3+(z.a2+(z.a1+(z.a0+19) / 2251799813685248) / 2251799813685248) / 2251799813685248) (by omega) (by omega)];have c3:0<=(z.a3+(z.a2+(z.a1+(z.a0+19) / 2251799813685248) / 2251799813685248) / 2251799813685248) / 2251799813685248/\(z.a3+(z.a2+(z.a1+(z.a0+19) / 2251799813685248) / 2251799813685248) / 2251799813685248) / 2251799813685248<=1:=by omega
 rw[U2 (n:=z.a4+(z.a3+(z.a2+(z.a1+(z.a0+19) / 2251799813685248) / 2251799813685248) / 2251799813685248) / 2251799813685248) (by omega) (by omega),DE (a:=z.a4+(z.a3+(z.a2+(z.a1+(z.a0+19) / 2251799813685248) / 2251799813685248) / 2251799813685248) / 2251799813685248) (by omega),Xz (a:=z.a4+(z.a3+(z.a2+(z.a1+(z.a0+19) / 2251799813685248) / 2251799813685248) / 2251799813685248) / 2251799813685248) (by omega) (by omega)];refine Ok.b (R:=λe=>e=Ih (fN a) 255) (Ok.e (λhc=>Ok.d ?_) λhc=>Ok.d ?_) λe he=>?_
 ·rw[<-hrest,if_pos (by simpa using hc)]
 ·rw[<-hrest,if_neg (by simpa using hc)]
 subst he;refine Ok.o rfl (Ok.b (R:=λe=>e=I1 λj=>((M5 8 (fN a) 255 j:Nat):Int)) ?_ λe he=>?_)
 rotate_left
 ·subst he;exact Ok.fact rfl (Ok.o rfl (Ok.d rfl))
 have hW:fN a < nP:=Qej a;generalize fN a=W at *;clear hrest;refine Ok.s 255 (by decide) (λk y=>y=((List.range 32).map (λj=>((M5 8 W k j:Nat):Int)),(k:Int))) ?_ (λk y hy hk=>?_) λy hy=>?_
 ·simp only[Le];rfl
 ·subst hy;refine Ok.t (wg (show (k:Int) < 255 by omega)) ?_;have hq8:k / 8 < 32:=by omega
  have Zr:((List.range 32).map (λj=>((M5 8 W k j:Nat):Int)))[0+k / 8]?=some ((M5 8 W k (k / 8):Nat):Int):=by
   rw[we,wm,List.getElem?_range hq8];rfl
  have hr:k % 51 < 51:=Nat.mod_lt _ (by decide);have hr8:k % 8 < 8:=Nat.mod_lt _ (by decide);have hsb:=mN 8 W (k:=k) (q:=k / 8) (by decide) rfl;have hs8:=FV 8 W k (k / 8);have hx:=SC 8 W (k:=k) (q:=k / 8) (by decide) rfl;have hbit:∀q,k / 51=q->W % 2 ^ 255 / 2 ^ (51 * q) % 2 ^ 51 / 2 ^ (k % 51) % 2=W / 2 ^ k % 2:=λq hq=>by
   rw[xV hr,<-hq,Nat.div_add_mod,Nat.mod_eq_of_lt (Nat.lt_trans hW (by decide +kernel))]
  have hb2:=RC W k;have fin:∀x:Int,x=((W / 2 ^ k % 2:Nat):Int)->(((List.range 32).map (λj=>((M5 8 W k j:Nat):Int))).set (0+k / 8) (Zl .u8 ((M5 8 W k (k / 8):Nat):Int) (E0 .u8 (Qk x) ((k % 8:Nat):Int))),Q0 ((k:Int)+1))=((List.range 32).map (λj=>((M5 8 W (k+1) j:Nat):Int)),((k+1:Nat):Int)):=λx hx'=>by
   subst hx';have e1:Qk ((W / 2 ^ k % 2:Nat):Int)=((W / 2 ^ k % 2:Nat):Int):=by show IntKind.u8.wrap _=_;rw[IntKind.wrap_u8];omega
   rw[Y0 hk (by decide),e1,Qqb ⟨k % 8,hr8⟩ ⟨M5 8 W k (k / 8),hs8⟩ ⟨W / 2 ^ k % 2,hb2⟩ hsb,we,lA];congr 1;refine wM λj _=>?_;rw[hx j];by_cases e:j=k / 8
   ·subst e;rw[if_pos rfl,if_pos rfl]
   ·rw[if_neg e,if_neg e,Nat.add_zero]
  have hq5:k / 51=0\/k / 51=1\/k / 51=2\/k / 51=3\/k / 51=4:=by omega
  have hlm:∀q,q < 5->U1 .u64 (Z5 .u64 ((W % 2 ^ 255 / 2 ^ (51 * q) % 2 ^ 51:Nat):Int) ((k % 51:Nat):Int)) 1=((W % 2 ^ 255 / 2 ^ (51 * q) % 2 ^ 51 / 2 ^ (k % 51) % 2:Nat):Int):=λq _=>by
   have hl:W % 2 ^ 255 / 2 ^ (51 * q) % 2 ^ 51 < 2 ^ 51:=Nat.mod_lt _ (by decide);generalize W % 2 ^ 255 / 2 ^ (51 * q) % 2 ^ 51=x at *;rw[show Z5 .u64 (x:Int) ((k % 51:Nat):Int)=_ from jI (by omega) _ (by omega)];have e:(x:Int) / 2 ^ (k % 51)=((x / 2 ^ (k % 51):Nat):Int):=by rw[Int.natCast_ediv,Int.natCast_pow];rfl
   have hle:=Nat.div_le_self x (2 ^ (k % 51));rw[e];generalize x / 2 ^ (k % 51)=d at *;rw[Qie (by omega) (by omega)];omega
  simp only[td8 k (by omega),Qup k (by omega),tm8,Qun,zW];refine Ok.k (by simp;omega) (Ok.r rfl Zr ?_);rcases hq5 with h|h|h|h|h;all_goals
   have hb:=hbit _ h;rw[h];refine Ok.Ko (by decide) (Ok.k (by simp;omega) (Ok.k (by simp;omega) (Ok.k (by simp;omega) (Ok.r rfl Zr (Ok.re (Ok.d (fin _ ?_)))))));exact(hlm _ (by decide)).trans (congrArg Nat.cast hb)
 ·subst hy;exact Ok.f rfl (Ok.d rfl)
theorem PM{f g:Nat->Int}(h:∀i,i < 32->f i=g i):I1 f=I1 g:=by
 refine List.ext_getElem? λi=>?_;simp_all [YR,if_pos,if_neg]
theorem GK{s:ze}{k:Nat}(h:k < s.size):(Q2 s)[k]?=some (QQ s (k:Int)):=by
 simp_all [wm,zW,Array.getElem?_toList,wB,wL,Q2,QQ]
theorem mJ{s:ze}(hs:s.size=32):Q2 s=I1 (Ze s):=by
 refine List.ext_getElem? λi=>?_;rw[YR];by_cases hi:i < 32
 ·rw[if_pos hi,GK (by omega)];rfl
 simp_all [if_neg,qp,J4]
theorem SY{f:Nat->Nat}(hf:∀i,f i < 256){i:Nat}(hi:i < 32):on (strOfNums (I1 λj=>((f j:Nat):Int))) i=f i:=by
 have hl:Q2 (strOfNums (I1 λj=>((f j:Nat):Int)))=I1 λj=>((f j:Nat):Int):=N3 λc hc=>by
  obtain⟨j,hj⟩:=List.getElem?_of_mem hc;rw[YR] at hj;grind
 have hsz:(strOfNums (I1 λj=>((f j:Nat):Int))).size=32:=E1 _;have e:=GK (s:=strOfNums (I1 λj=>((f j:Nat):Int))) (k:=i) (by omega);rw[hl,YR,if_pos hi,WW] at e;grind
theorem Dk{f g:Nat->Nat}:∀{n:Nat},(∀i,i < n->f i=g i)->Oz f n=Oz g n
 | 0,_=>rfl
 | n+1,h=>by
  show Oz f n+f n * 256 ^ n=Oz g n+g n * 256 ^ n;rw[Dk λi hi=>h i (by omega),h n (by omega)]
def qF(s:ze)(i:Nat):Nat:=if i=0 then on s 0 / 8 * 8 else if i=31 then on s 31 % 64+64 else on s i
def Db(s:ze):ze:=strOfNums (I1 λi=>((qF s i:Nat):Int))
theorem xR(s:ze)(i:Nat):qF s i < 256:=by
 grind [Ux,qF]
theorem RD(s:ze):(Db s).size=32:=E1 _
theorem Qy4(s:ze):Yr (Db s)=Oz (qF s) 32:=Dk λ_ hi=>SY (xR s) hi
theorem xG:∀c:Fin 256,U1 .u8 ((c.val:Nat):Int) 248=((c.val / 8 * 8:Nat):Int)/\Zl .u8 (U1 .u8 ((c.val:Nat):Int) 127) 64=((c.val % 64+64:Nat):Int):=by decide +kernel
theorem Vr(s:ze)(hs:s.size=32):Qy (vU s) (λr=>r=Db s):=by
 unfold vU;refine Qy.fn ?_;unfold Qkv;refine Ok.fact (mJ hs) (Ok.o rfl (Ok.o (r:=()) (by show (bif _ then _ else _)=_;rw[J4,hs];rfl) (Ok.o rfl (Ok.o rfl (Ok.o rfl (Ok.o rfl ?_))))));refine Ok.r rfl (x:=Ze s 0) rfl (Ok.o rfl (Ok.r rfl (x:=Ze s 0) rfl (Ok.re (Ok.o rfl ?_))));refine Ok.r rfl (x:=Ze s 31) rfl (Ok.o rfl (Ok.r rfl (x:=Ze s 31) rfl (Ok.re (Ok.o rfl (Ok.o rfl (Ok.d ?_))))));unfold Db;congr 1;refine PM λi hi=>?_;have e:∀i:Nat,Ze s i=((on s i:Nat):Int):=λi=>WW s i;show (bif i==31 then _ else bif i==0 then _ else Ze s i)=_;unfold qF;rw[e 31,e 0,e i,(xG ⟨on s 0,Ux s 0⟩).1,(xG ⟨on s 31,Ux s 31⟩).2];by_cases h0:i=0
 ·subst h0;rfl
 grind
def OX(y:Y9):Prop:=Hx y.fT.YY/\Hx y.fT.Qt/\Hx y.Qn.YY/\Hx y.Qn.Qt/\Hx y.fu
theorem Qwu:Hx ⟨121665,0,0,0,0⟩:=by unfold Hx;decide
theorem Qi3:fN ⟨121665,0,0,0,0⟩=121665:=by decide +kernel
theorem Cp(y:Y9)(hy:OX y):Qy (Qhy y) (λr=>(Hx r.1/\Hx r.2.1/\Hx r.2.2.1/\Hx r.2.2.2)/\
  (∀k:Nat->Nat->Nat×Nat,RH 121665 (fN y.fT.YY) (fN y.fT.Qt) k=k (fN r.1) (fN r.2.1))/\
  ∀k:Nat->Nat->Nat×Nat,RU (fN y.fu) (fN y.fT.YY) (fN y.fT.Qt) (fN y.Qn.YY) (fN y.Qn.Qt) k=k (fN r.2.2.1) (fN r.2.2.2)):=by
 obtain⟨h1,h2,h3,h4,h5⟩:=hy;show Ok (Qj1 y) _;unfold Qj1;refine Ok.c (FE _ _ h1 h2) λp hp=>Ok.c (XU _ _ h1 h2) λm hm=>Ok.c (S6 _ _ hp.1 hp.1) λs hs=>Ok.c (S6 _ _ hm.1 hm.1) λt ht=>Ok.c (XU _ _ hs.1 ht.1) λe he=>?_;refine Ok.c (XU _ _ h3 h4) λf0 hf0=>Ok.c (S6 _ _ hf0.1 hp.1) λf hf=>Ok.c (FE _ _ h3 h4) λg0 hg0=>Ok.c (S6 _ _ hg0.1 hm.1) λg hg=>?_;refine Ok.c (S6 _ _ hs.1 ht.1) λx hx=>Ok.c (S6 _ _ he.1 Qwu) λc hc=>Ok.c (FE _ _ hs.1 hc.1) λd hd=>Ok.c (S6 _ _ he.1 hd.1) λz hz=>?_;refine Ok.c (FE _ _ hf.1 hg.1) λa ha=>Ok.c (XU _ _ hf.1 hg.1) λb hb=>Ok.c (S6 _ _ ha.1 ha.1) λa2 ha2=>Ok.c (S6 _ _ hb.1 hb.1) λb2 hb2=>Ok.c (S6 _ _ h5 hb2.1) λw hw=>Ok.d ⟨(by grind),λk=>?_,λk=>?_⟩
 ·simp only[RH,force_eq];simp_all [Qi3]
 ·simp only[RU,force_eq];grind
theorem Qjn{s:ze}(hs:s.size=32){k:Nat}(hk:k < 255):(gDg s (k:Int)).run=some (Yr s / 2 ^ k % 2==1):=by
 have hb:=BU (on s) (Ux s) (n:=32) (k:=k) (by omega);have h:Ok (gDg s (k:Int)) (λr=>r=(Yr s / 2 ^ k % 2==1)):=by
  unfold gDg;rw[td8 k (by omega),tm8,WW,GH ⟨on s (k / 8),Ux _ _⟩ ⟨k % 8,Nat.mod_lt _ (by decide)⟩];grind [Ok.k,Ok.d,Nat.mod_two_eq_zero_or_one,on,Yr]
 obtain⟨r,h1,h2⟩:=h;rw[h1,h2]
theorem uK(u:Q5)(y:Y9)(s:ze)(b:Bool)(hy:OX y):∃r,(Rs u y s b).run=some r/\OX r/\r.fu=y.fu/\∀l:List Bool,
  Jj 121665 (fN y.fu) (b :: l) (fN y.fT.YY) (fN y.fT.Qt) (fN y.Qn.YY) (fN y.Qn.Qt)=Jj 121665 (fN y.fu) l (fN r.fT.YY) (fN r.fT.Qt) (fN r.Qn.YY) (fN r.Qn.Qt):=by
 obtain⟨h1,h2,h3,h4,h5⟩:=hy;have h:Ok (Rs u y s b) (λr=>OX r/\r.fu=y.fu/\∀l:List Bool,
   Jj 121665 (fN y.fu) (b :: l) (fN y.fT.YY) (fN y.fT.Qt) (fN y.Qn.YY) (fN y.Qn.Qt)=Jj 121665 (fN y.fu) l (fN r.fT.YY) (fN r.fT.Qt) (fN r.Qn.YY) (fN r.Qn.Qt)):=by
  unfold Rs;cases b with
  | true=>
   refine Ok.b (R:=λe=>e=(y.Qn.YY,y.Qn.Qt,y.fT.YY,y.fT.Qt)) (Ok.t rfl (Ok.d rfl)) λe he=>?_;subst he;refine Ok.c (Cp ⟨⟨y.Qn.YY,y.Qn.Qt⟩,⟨y.fT.YY,y.fT.Qt⟩,y.fu⟩ ⟨h3,h4,h1,h2,h5⟩) λr hr=>Ok.t rfl (Ok.d ⟨⟨hr.1.2.2.1,hr.1.2.2.2,hr.1.1,hr.1.2.1,h5⟩,rfl,λl=>?_⟩);show (bif true then _ else _)=_;grind
  | false=>
   refine Ok.b (R:=λe=>e=(y.fT.YY,y.fT.Qt,y.Qn.YY,y.Qn.Qt)) (Ok.f rfl (Ok.d rfl)) λe he=>?_;subst he;refine Ok.c (Cp ⟨⟨y.fT.YY,y.fT.Qt⟩,⟨y.Qn.YY,y.Qn.Qt⟩,y.fu⟩ ⟨h1,h2,h3,h4,h5⟩) λr hr=>Ok.f rfl (Ok.d ⟨⟨hr.1.1,hr.1.2.1,hr.1.2.2.1,hr.1.2.2.2,h5⟩,rfl,λl=>?_⟩);show (bif false then _ else _)=_;grind
 obtain⟨r,e,h⟩:=h;grind
theorem cP(u:Q5)(s:ze)(y:Y9):My u s (y,((0:Nat):Int) - 1)=some (.inr y):=by
 unfold My;grind
theorem LQ(N:Nat):Crv.bits N 0=[]:=rfl
theorem LZ(N n:Nat):Crv.bits N (n+1)=(N / 2 ^ n % 2==1) :: Crv.bits N n:=rfl
theorem Ra(c u x y z w:Nat):Jj c u [] x y z w=(x,y):=rfl
theorem nC{f:Y9×Int->Option ((Y9×Int)⊕Y9)}{N:Nat}(h0:∀y,f (y,((0:Nat):Int) - 1)=some (.inr y))
  (h1:∀n y,n < 255->OX y->∃r,f (y,((n+1:Nat):Int) - 1)=some (.inl (r,(n:Int) - 1))/\OX r/\r.fu=y.fu/\∀l:List Bool,
   Jj 121665 (fN y.fu) ((N / 2 ^ n % 2==1) :: l) (fN y.fT.YY) (fN y.fT.Qt) (fN y.Qn.YY) (fN y.Qn.Qt)=Jj 121665 (fN y.fu) l (fN r.fT.YY) (fN r.fT.Qt) (fN r.Qn.YY) (fN r.Qn.Qt)) (n:Nat) :
  ∀(m:Nat) (y:Y9),n<=255->n < m->OX y->∃r,I0 f m (y,(n:Int) - 1)=some r/\OX r/\
   Jj 121665 (fN y.fu) (Crv.bits N n) (fN y.fT.YY) (fN y.fT.Qt) (fN y.Qn.YY) (fN y.Qn.Qt)=(fN r.fT.YY,fN r.fT.Qt):=by
 induction n with
 | zero=>
  intro m y _ hm hy;obtain⟨m,rfl⟩:=Nat.exists_eq_succ_of_ne_zero (show m≠0 by omega);grind [LQ,Ra,Nat.succ_eq_add_one,ZH]
 | succ n ih=>
  intro m y hn hm hy;obtain⟨m,rfl⟩:=Nat.exists_eq_succ_of_ne_zero (show m≠0 by omega);grind [Nat.succ_eq_add_one,ZH,LZ]
theorem oA(u:Q5){s:ze}{n:Nat}{y r:Y9}{b:Bool}(h0:(gDg s (n:Int)).run=some b)(h1:(Rs u y s b).run=some r)(hn:n < 255):My u s (y,((n+1:Nat):Int) - 1)=some (.inl (r,(n:Int) - 1)):=by
 rw[show ((n+1:Nat):Int) - 1=(n:Int) by omega];unfold My;simp only[h0,h1,show decide ((0:Int)<=(n:Int))=true by simp,cond_true];grind [Z2]
theorem nS(u:Q5){s:ze}(hs:s.size=32)(n:Nat):∀(m:Nat) (y:Y9),n<=255->n < m->OX y->∃r,I0 (My u s) m (y,(n:Int) - 1)=some r/\OX r/\
  Jj 121665 (fN y.fu) (Crv.bits (Yr s) n) (fN y.fT.YY) (fN y.fT.Qt) (fN y.Qn.YY) (fN y.Qn.Qt)=(fN r.fT.YY,fN r.fT.Qt):=
 nC (cP u s) (λn y hn hy=>by
  obtain⟨r,h1,h2,h3,h4⟩:=uK u y s (Yr s / 2 ^ n % 2==1) hy;exact⟨r,oA u (Qjn hs hn) h1 hn,h2,h3,h4⟩) n
def xN(n u:Nat):Nat:=(Jj 121665 (u % nP) (Crv.bits n 255) 1 0 (u % nP) 1).1 * Gu (Jj 121665 (u % nP) (Crv.bits n 255) 1 0 (u % nP) 1).2 % nP
def xS(k p:ze):ze:=OZ (xN (Yr (Db k)) (Yr p % 2 ^ 255))
theorem ZI(k p:ze):(xS k p).size=32:=E1 _
section
attribute [local irreducible] xS
theorem qR:Hx ⟨0,0,0,0,0⟩:=by unfold Hx;decide
theorem iC:fN ⟨0,0,0,0,0⟩=0:=by decide +kernel
theorem Qzr(N:Nat):fN (Ih N 255)=N % 2 ^ 255 % nP:=by
 unfold fN;rw[(CM N).2];refine(Rw rfl).trans ?_;rfl
theorem Lh(k p:ze)(hk:k.size=32)(hp:p.size=32):Qy (Fb k p) (λr=>r=xS k p):=by
 unfold Fb;refine Qy.fn ?_;unfold dZ;refine Ok.c (gF p hp) λu hu=>Ok.c (Vr k hk) λc hc=>Ok.c (R:=λ_=>True) ⟨(),rfl,trivial⟩ λ_ _=>Ok.g ?_;subst hu;subst hc;have hl:=(CM (Yr p)).1;obtain⟨r,h1,h2,h3⟩:=nS (Ih (Yr p) 255) (RD k) 255 Yv ⟨⟨⟨1,0,0,0,0⟩,⟨0,0,0,0,0⟩⟩,⟨Ih (Yr p) 255,⟨1,0,0,0,0⟩⟩,Ih (Yr p) 255⟩ (by decide) (by unfold Yv;decide) ⟨FJ,qR,hl,FJ,hl⟩;refine Ok.Ou (r:=r) h1 ?_;refine Ok.c (Qzm _ h2.2.1) λd hd=>Ok.c (S6 _ _ h2.1 hd.1) λt ht=>Ok.c (Qzk _ ht.1) λo ho=>Ok.d ?_;simp_all [kQ,iC,Qzr,xS,xN]
def Jz:ze:=strOfNums (I1 (U6 (λ_=>0) 0 9))
theorem Ku:Jz.size=32:=E1 _
theorem WV(k:ze):Qy (s67 k) (λr=>r=if k.size=32 then (xS k Jz,0) else (zg,2)):=by
 unfold s67;refine Qy.fn ?_;unfold g67;refine Ok.e (λh=>Ok.d ?_) λh=>?_
 ·grind
 ·have h:(k.size:Int)=32:=by simpa using h
  have hk:k.size=32:=by omega
  refine Ok.o rfl (Ok.o rfl (Ok.o rfl (Ok.o rfl (Ok.c (Lh k Jz hk Ku) λr hr=>Ok.d ?_))));grind
theorem Nw{f:Nat->Nat}(hf:∀i,f i < 256){i:Nat}(hi:i < 32):Ze (strOfNums (I1 λj=>((f j:Nat):Int))) i=((f i:Nat):Int):=by
 show QQ _ (i:Int)=_;rw[WW,SY hf hi]
theorem Ld{n:Nat}(h:n < 2 ^ 255):(∀i,i < 32->Ze (OZ n) i=0)↔n=0:=by
 have hf:∀i,M5 8 n 255 i < 256:=λi=>FV 8 n 255 i;constructor
 ·intro hz;have hl:∀i,i < 32->M5 8 n 255 i=0:=λi hi=>by
   simp_all [Nw,OZ]
  have key:∀j,j<=32->n % 256 ^ j=0:=λj=>by
   induction j with
   | zero=>grind
   | succ j ih=>
    intro hj;have h1:=ih (by omega);have h2:=hl j (by omega);simp_all [Nat.mod_eq_of_lt,Nat.pow_mul,Nat.pow_succ,Nat.mod_mul,M5]
  have:=key 32 (zQ _);grind
 ·intro hz i hi;subst hz;unfold OZ;rw[Nw (by grind) hi];grind [Nat.zero_mod,Nat.zero_div,M5]
theorem Vn(k p:ze)(hk:k.size=32)(hp:p.size=32):Qy (tK k p) (λr=>r=if xN (Yr (Db k)) (Yr p % 2 ^ 255)=0 then (zg,2) else (xS k p,0)):=by
 unfold tK;refine Qy.fn ?_;unfold Qk2;refine Ok.n (R:=λc=>c=false) (Ok.f (by rw[hk];rfl) (Ok.d (by rw[hp];rfl))) λc hc=>?_;subst hc;refine Ok.f rfl (Ok.c (Lh k p hk hp) λr hr=>?_);subst hr;refine Ok.fact (mJ (ZI k p)) (Ok.o rfl (Ok.o (r:=()) (by show (bif _ then _ else _)=_;rw[J4,ZI];rfl) (Ok.o rfl ?_)));have hlt:xN (Yr (Db k)) (Yr p % 2 ^ 255) < 2 ^ 255:=Nat.lt_trans (Nat.mod_lt _ (by decide +kernel)) (by decide +kernel:nP < 2 ^ 255);have hz:=Ld hlt;have ez:∀i,Ze (xS k p) i=Ze (OZ (xN (Yr (Db k)) (Yr p % 2 ^ 255))) i:=λi=>by unfold xS;rfl
 refine Ok.e (λh=>Ok.d ?_) λh=>Ok.d ?_
 ·have h:([0,1,2,3,4,5,6,7,8,9,10,11,12,13,14,15,16,17,18,19,20,21,22,23,24,25,26,27,28,29,30,31]:List Nat).all (λi=>Ze (xS k p) i==0)=true:=h;rw[if_pos (hz.1 λi hi=>?_)];have:=zN.1 h i (by simp;omega);grind
 ·have h:([0,1,2,3,4,5,6,7,8,9,10,11,12,13,14,15,16,17,18,19,20,21,22,23,24,25,26,27,28,29,30,31]:List Nat).all (λi=>Ze (xS k p) i==0)=false:=h;refine(if_neg λh0=>?_).symm;simp_all
end
abbrev Out:=(Q3×List Q9)⊕(Bool×Int)
def Zx(k:Int)(b:ze):ze:=strOfNums [k % 256,(b.size:Int) / 65536 % 256,(b.size:Int) / 256 % 256,(b.size:Int) % 256]++b
theorem K0(k:Int)(b:ze):(Zx k b).size=4+b.size:=by unfold Zx;rw[ByteArray.size_append,E1];rfl
def Mm(st now:Int):Y1:=if st=1\/st=6 then pP else UX now
def Uw(s:Q3):ze:=xS s.fZ Jz
theorem F7(s:Q3):(Uw s).size=32:=ZI _ _
def Oj:ze:=strOfNums (List.replicate 32 0)
def Qw8:ze:=bs [116,97,110,110,111,121,32,109,97,115,116,101,114]
def Yc:ze:=bs [99,108,105,101,110,116]
def Jo:ze:=bs [115,101,114,118,101,114]
def Vb(a b c d:ze):ze:=rT (a++b) (c++d) Qw8
def K3(m side s:ze):ze:=V2 (rT m zg side) (Mq s)
theorem M9(m side s:ze):(K3 m side s).size=32:=B8 _ _
def Me(s:Q3)(st k:Int)(b:ze):Q3:={ s with fk:=st,fo:=s.fo+1,fP:=[⟨k,s.fo,b⟩],fD:=Mm st s.fm }
def JU(s:Q3)(e:Int):Q3:={ s with fk:=7,fq:=zg,fj:=⟨zg,zg,zg⟩,fC:=zg,fP:=[],fD:=pP,ge:=e }
def HR(s:Q3):Out:=bif s.fp==1&&s.fk==1 then .inl (Me s 2 1 (s.fG++Uw s),[⟨1,s.fo,s.fG++Uw s⟩]) else .inr (false,8)
def S8(s:Q3)(b:ze):Out:=
 if b.size≠32 then .inr (false,5) else if ¬s.fo < 7 then .inr (false,3) else
 .inl ({ Me s 3 1 (s.fG++Uw s++b) with fq:=Zx 1 (s.fG++Uw s++b) },[⟨1,s.fo,s.fG++Uw s++b⟩])
def Jl(s:Q3)(b:ze):ze:=s.fq++Zx 3 b
def Xs(s:Q3)(b:ze):ze:=Vb (xS s.fZ (Zm (b.extract 64 b.size)).fJ) (xS s.gd (b.extract 32 64)) s.fG (b.extract 0 32)
def HH(s:Q3)(b:ze):ze:=K3 (Xs s b) Yc (Jl s b++s.fh)++s.fh
def O1(s:Q3)(b:ze):Out:=
 if ¬64 < b.size then .inr (false,5) else if okB (b.extract 64 b.size)=false then .inr (false,5) else
 if Yo (Zm (b.extract 64 b.size)) s.fL s.fm≠0 then .inr (true,Yo (Zm (b.extract 64 b.size)) s.fL s.fm) else
 if xS s.fZ (Zm (b.extract 64 b.size)).fJ=Oj\/xS s.gd (b.extract 32 64)=Oj then .inr (true,2) else
 .inl ({ Me s 5 4 (HH s b) with fj:=⟨b.extract 0 32,b.extract 32 64,b.extract 64 b.size⟩,fC:=Xs s b,fq:=Jl s b++Zx 4 (HH s b) },[⟨4,s.fo,HH s b⟩])
def Hc(s:Q3)(b:ze):Out:=
 if b.size≠32 then .inr (false,5) else if b≠K3 s.fC Jo s.fq then .inr (true,9) else
 .inl ({ s with fq:=s.fq++Zx 5 b,fk:=6,fP:=[],fD:=pP },[])
def Dx(s:Q3)(b:ze):ze:=s.fq++Zx 1 b
def HJ(s:Q3):ze:=s.fG++Uw s++s.fh
def G1(s:Q3)(f b:ze):Out:=
 if b.size≠64/\b.size≠96 then .inr (false,5) else
 if b.extract 64 b.size≠V2 s.gb (f++b.extract 0 64) then (if ¬s.fo < 6 then .inr (false,3) else .inl (Me s 1 2 (V2 s.gb (f++b.extract 0 64)),[⟨2,s.fo,V2 s.gb (f++b.extract 0 64)⟩])) else
 .inl ({ Me s 4 3 (HJ s) with fj:=⟨b.extract 0 32,b.extract 32 64,zg⟩,fq:=Dx s b++Zx 3 (HJ s) },[⟨3,s.fo,HJ s⟩])
def Um(s:Q3)(b:ze):ze:=Vb (xS s.gd s.fj.fR) (xS s.fZ (Zm (b.extract 32 b.size)).fJ) s.fj.fG s.fG
def Ml(s:Q3)(b:ze):ze:=s.fq++Zx 4 b
def Wh(s:Q3)(b:ze):ze:=K3 (Um s b) Jo (Ml s b)
def R6(s:Q3)(b:ze):Out:=
 if ¬32 < b.size then .inr (false,5) else if okB (b.extract 32 b.size)=false then .inr (false,5) else
 if Yo (Zm (b.extract 32 b.size)) s.fL s.fm≠0 then .inr (true,Yo (Zm (b.extract 32 b.size)) s.fL s.fm) else
 if xS s.gd s.fj.fR=Oj\/xS s.fZ (Zm (b.extract 32 b.size)).fJ=Oj then .inr (true,2) else
 if b.extract 0 32≠K3 (Um s b) Yc (s.fq++b.extract 32 b.size) then .inr (true,9) else
 .inl ({ Me s 6 5 (Wh s b) with fj:=⟨s.fj.fG,s.fj.fR,b.extract 32 b.size⟩,fC:=Um s b,fq:=Ml s b++Zx 5 (Wh s b) },[⟨5,s.fo,Wh s b⟩])
def U9(s:Q3)(f:ze)(n:Q9):Out:=
 if s.fp=1/\(s.fk=2\/s.fk=3)/\n.fw=2 then S8 s n.ft else
 if s.fp=1/\s.fk=3/\n.fw=3 then O1 s n.ft else
 if s.fp=1/\s.fk=5/\n.fw=5 then Hc s n.ft else
 if s.fp=2/\s.fk=1/\n.fw=1 then G1 s f n.ft else
 if s.fp=2/\s.fk=4/\n.fw=4 then R6 s n.ft else .inr (false,8)
def HI(s:Q3):Out:=bif !(Ub s.fD s.fm).1 then .inl (s,[]) else bif (GD s.fD s.fm).2 != 0 then .inr (true,6) else .inl ({ s with fD:=(GD s.fD s.fm).1 },s.fP)
def Kx(s:Q3)(v:Q7):Out:=
 if v.fw=1 then HR s else if v.fw=2 then U9 s v.fI v.fM else if v.fw=3 then HI s else .inl (s,bif s.fp==2 then s.fP else [])
def Bi(s:Q3)(v:Q7):Bool:=decide (1<=v.fw)&&(decide (v.fw<=4)&&(decide (s.fm<=v.fm)&&(decide (v.fm<=1099511627776)&&(decide ((v.fI.size:Int)<=64)&&(v.fw != 2 || B7 v.fM)))))
def Gg(s:Q3):Out->Q3×List Q9×Int
 | .inl r=>(r.1,r.2,0)
 | .inr (true,e)=>(JU s e,[],0)
 | .inr (false,e)=>(Fw,[],e)
def U7(s:Q3)(v:Q7):Q3×List Q9×Int:=
 bif QZ s then bif Bi s v then Gg { s with fm:=v.fm } (Kx { s with fm:=v.fm } v) else (Fw,[],2) else (Fw,[],200)
theorem LL(k p:ze):xS k p=Oj↔xN (Yr (Db k)) (Yr p % 2 ^ 255)=0:=by
 have hlt:xN (Yr (Db k)) (Yr p % 2 ^ 255) < 2 ^ 255:=Nat.lt_trans (Nat.mod_lt _ (by decide +kernel)) (by decide +kernel:nP < 2 ^ 255);rw[<-Ld hlt];have hz:(xS k p).size=Oj.size:=by rw[ZI];rfl
 have z0:∀i:Nat,i < 32->QQ Oj (i:Int)=0:=λi hi=>by
  have:((List.range 32).all λi=>QQ Oj ((i:Nat):Int)==0)=true:=by decide
  grind
 constructor
 ·intro h i hi;show QQ (xS k p) (i:Int)=0;grind
 ·intro h;refine GW hz λi hi=>?_;have hi:i < 32:=by rwa [ZI] at hi
  rw[z0 i hi];exact h i hi
theorem NZ(s:Q3)(h:Y8.any (F5 s)=true):0<=s.fo/\s.fo<=8:=by
 obtain⟨x,hx,h1⟩:=List.any_eq_true.1 h;have hb:(Y8.all λx=>decide (0<=x.ZK/\x.Un<=8))=true:=by decide
 have hb:=zN.1 hb x hx;unfold F5 at h1;grind
structure Vf(s:Q3):Prop where
 nw:T5 s.fm=true
 sc:s.gd.size=32
 fr:s.fZ.size=32
 rn:s.fG.size=32
 ck:s.gb.size<=32
 bd:okB s.fh=true
 bz:s.fh.size<=86
 pl:s.fL.length<=8
 ps:∀p,p∈s.fL->p.size=103
 sd:0<=s.fo/\s.fo<=8
 td:s.fq.size<=412
 tm:Zt s.fD=true
 pb:s.fj.fh.size<=86
 pp:s.fj.fR.size<=32/\s.fj.fG.size<=32
 ma:s.fC.size<=32
 ll:s.fP.length<=1
 lk:s.fp=2->s.fk=4->s.fj.fR.size=32
theorem Yq{s:ze}(h:okB s=true):55<=s.size/\s.size<=86:=by
 unfold okB at h;simp only[zL,zM] at h;obtain⟨h1,h2,h3,h4⟩:=h;obtain⟨z1,z2⟩:=B1 (N8 h4).1;grind [ByteArray.size_extract,Zm,Hs]
theorem XW{s:ze}(h:okB s=true):(Zm s).fJ.size=32/\L9 (Zm s)=true:=by
 simp_all [zL,zM,N8,okB]
theorem Gn{s:ze}(h:HK s=true):s.size=0:=by
 simp_all [zM,HK]
theorem YN{s:ze}(h:ZA s=true):s.size=32:=by grind [ZA]
theorem I7{s:Q3}(h:QZ s=true):Vf s:=by
 unfold QZ Rt at h;simp only[zL] at h;obtain⟨⟨h1,h2,h3,h4,h5,h6,h7,h8,h9⟩,h10⟩:=h;have sd:=NZ s h10;obtain⟨x,hx,hl⟩:=List.any_eq_true.1 h10;have hb:(Y8.all λx=>decide (0<=x.Jw/\x.Jw<=240/\(x.QS=0\/x.QS=1\/x.QS=2)/\(x.JZ=2/\x.Yp=4->x.QS=1)))=true:=by decide
 have hb:=zN.1 hb x hx;rw[zM] at hb;unfold F5 at hl;simp only[zL,beq_iff_eq,zM] at hl;obtain⟨l1,l2,l3,l4,l5,l6,l7,l8⟩:=hl;have bz:=Yq h7;unfold Uk at h6;simp only[zL,zM,zN] at h6;have pk:s.fj.fh.size<=86/\s.fj.fR.size<=32/\s.fj.fG.size<=32/\s.fC.size<=32/\(x.QS=1->s.fj.fR.size=32):=by
  unfold P3 at l7;rcases hb.2.2.1 with hk|hk|hk
  ·simp_all [if_true,zL,Gn]
  ·simp_all [if_true,if_false,zL,YN,Gn]
  simp_all [if_false,zL,YN,Yq]
 refine⟨h1,YN h2,YN h3,YN h4,?_,h7,bz.2,h6.1,λp hp=>?_,sd,?_,h8,pk.1,⟨pk.2.1,pk.2.2.1⟩,pk.2.2.2.1,?_,(by grind)⟩
 ·grind [YN,Gn,UY]
 ·simp_all [zL,zM,YF]
 ·grind [Uy]
 ·unfold V6 at l8;grind
theorem Vf.sm{s:Q3}(h:Vf s):Sm s:=⟨by have:=h.bz;omega,by have:=h.pb;omega,by have:=h.td;omega,by have:=h.rn;omega,by have:=h.pl;omega,λp hp=>by have:=h.ps p hp;omega,by have:=h.ll;omega⟩
end Go.Proofs.YtjdieimefebnfaaGreatDoor
namespace Go.Proofs.YtjdieimefebnfaaGreatDoor
open Go Go.EV
theorem Ia{s:Q3}(h:Y8.any (F5 s)=true):∃x,x∈Y8/\s.fp=x.JZ/\s.fk=x.Yp/\x.ZK<=s.fo/\s.fo<=x.Un/\(s.fq.size:Int)=Uy s x/\x.UT=decide (0<=s.fD.fB)/\P3 s x.QS=true/\V6 s x.KA=true:=by
 obtain⟨x,hx,hl⟩:=List.any_eq_true.1 h;unfold F5 at hl;simp only[zL,beq_iff_eq,zM] at hl;exact⟨x,hx,hl⟩
theorem F4{s:Q3}(x:H8)(hx:x∈Y8)(h:s.fp=x.JZ/\s.fk=x.Yp/\x.ZK<=s.fo/\s.fo<=x.Un/\(s.fq.size:Int)=Uy s x/\x.UT=decide (0<=s.fD.fB)/\P3 s x.QS=true/\V6 s x.KA=true):Y8.any (F5 s)=true:=by
 refine List.any_eq_true.2 ⟨x,hx,?_⟩;unfold F5;simp only[zL,beq_iff_eq,zM];exact h
theorem C5{s:Q3}(h:Rt s=true)(h2:Y8.any (F5 s)=true):QZ s=true:=by
 unfold QZ;rw[h,h2];rfl
theorem R0{s:Q3}(h:QZ s=true):Rt s=true/\Y8.any (F5 s)=true:=by
 unfold QZ at h;simpa using h
structure Fx(s:Q3):Prop where
 nw:T5 s.fm=true
 sc:ZA s.gd=true
 fr:ZA s.fZ=true
 rn:ZA s.fG=true
 ck:UY s=true
 pr:Uk s=true
 bd:okB s.fh=true
 tm:Zt s.fD=true
 wy:Xj s=true
theorem M0(s:Q3):Rt s=true↔Fx s:=by
 unfold Rt;simp only[zL];exact⟨λ⟨a,b,c,d,e,f,g,h,i⟩=>⟨a,b,c,d,e,f,g,h,i⟩,λ⟨a,b,c,d,e,f,g,h,i⟩=>⟨a,b,c,d,e,f,g,h,i⟩⟩
theorem T4{n:Int}:T5 n=true↔0<=n/\n<=1099511627776:=by unfold T5;simp
theorem Fz:Zt pP=true:=by rfl
theorem PX{n:Int}(h:0<=n):Zt (UX n)=true:=by
 unfold Zt UX ZG;have:((n+400:Int)==-1)=false:=by simp;omega
 simp only[this,cond_false];simp;omega
theorem Cq{s:Q3}(h:QZ s=true){n:Int}(hn:T5 n=true):QZ { s with fm:=n }=true:=by
 obtain⟨h1,h2⟩:=R0 h;have f:=(M0 s).1 h1;exact C5 ((M0 _).2 ⟨hn,f.sc,f.fr,f.rn,f.ck,f.pr,f.bd,f.tm,f.wy⟩) h2
theorem yK{s t:Q3}(h:Xj s=true)(hs:s.fk≠7)(ht:t.fk≠7)(e:t.ge=s.ge):Xj t=true:=by
 unfold Xj at *;rw[if_neg hs] at h;rw[if_neg ht,e];exact h
theorem CB{s:ze}(h:HK s=true):s=zg:=by unfold HK at h;simpa using h
theorem JE{s:ze}(h:s.size=32):ZA s=true:=by unfold ZA;simpa using h
theorem Km{s:Q3}{k q:Int}{b:ze}(hl:s.fP=[⟨k,q,b⟩])(hk:1<=k/\k<=5)(hb:b.size<=4000)(hq:0<=q/\q<=8)(hs:s.fo=q+1):V6 s k=true:=by
 unfold V6 B7;rw[if_neg (by omega),hl,hs];have:Q0 (q+1 - 1)=q:=by rw[Z2 (by omega) (by omega)];omega
 simp only[this,zL,zM,beq_iff_eq];exact⟨by omega,trivial,trivial⟩
theorem Wg{s:Q3}(h:s.fP=[]):V6 s 0=true:=by unfold V6;rw[if_pos rfl,h];rfl
theorem MB{s:Q3}(h:s.fj=⟨zg,zg,zg⟩)(hm:s.fC=zg):P3 s 0=true:=by
 unfold P3;rw[if_pos rfl,h,hm];decide
theorem Ly{s:Q3}(h:P3 s 0=true):(s.fj.fG=zg/\s.fj.fR=zg/\s.fj.fh=zg)/\s.fC=zg:=by
 unfold P3 at h;rw[if_pos rfl] at h;simp only[zL] at h;exact⟨⟨CB h.1,CB h.2.1,CB h.2.2.1⟩,CB h.2.2.2⟩
theorem Pk{s:Q3}(f:Fx s){b:Z7}(hb:L9 b=true):Yo b s.fL s.fm=0\/Yo b s.fL s.fm=4\/Yo b s.fL s.fm=10:=by
 have hp:=f.pr;unfold Uk at hp;simp only[zL,zM] at hp;have hn:=T4.1 f.nw;have h1:(s.fL.any λx=>!YF x)=false:=by
  rw[List.any_eq_false];intro x hx;have:=zN.1 hp.2 x hx;simp[this]
 unfold Yo SR;rw[hb,h1];have h2:decide (8 < s.fL.length)=false:=by simp;omega
 rw[h2];have h3:(decide (s.fm < 0) || decide (1099511627776 < s.fm))=false:=by simp;omega
 rw[h3];simp only[Bool.not_true,cond_false];cases (s.fL.any λx=>decide (E8 (Mq (W7 b))=x))<;>cases (decide (s.fm < b.fI) || decide (b.fF < s.fm))<;>simp
theorem Jk{s:Q3}(h:QZ s=true){e:Int}(he:e=2\/e=4\/e=6\/e=9\/e=10):QZ (JU s e)=true:=by
 obtain⟨h1,h2⟩:=R0 h;have f:=(M0 s).1 h1;have sd:=NZ s h2;obtain⟨x,hx,l1,_⟩:=Ia h2;have hs:s.fp=1\/s.fp=2:=by
  have:(Y8.all λx=>decide (x.JZ=1\/x.JZ=2))=true:=by decide
  have:=zN.1 this x hx;rw[zM] at this;omega
 refine C5 ((M0 _).2 ⟨f.nw,f.sc,f.fr,f.rn,f.ck,f.pr,f.bd,Fz,?_⟩) ?_
 ·unfold Xj JU;rw[if_pos rfl];simp only[wi,beq_iff_eq];omega
 ·rcases hs with hs|hs
  ·exact F4 ⟨1,7,0,8,0,0,0,false⟩ (by simp[Y8]) ⟨hs,rfl,sd.1,sd.2,by rfl,by rfl,MB rfl rfl,Wg rfl⟩
  ·exact F4 ⟨2,7,0,8,0,0,0,false⟩ (by simp[Y8]) ⟨hs,rfl,sd.1,sd.2,by rfl,by rfl,MB rfl rfl,Wg rfl⟩
theorem UA{s:Q3}(h:Y8.any (F5 s)=true) :
  (s.fp=1/\s.fk=1->s.fo=0/\s.fq.size=0/\P3 s 0=true)/\
  (s.fp=1/\(s.fk=2\/s.fk=3)->1<=s.fo/\s.fo<=7/\P3 s 0=true)/\
  (s.fp=1/\s.fk=3->2<=s.fo/\s.fq.size=100)/\
  (s.fp=1/\s.fk=5->3<=s.fo/\s.fo<=8/\s.fq.size=204+s.fh.size+s.fj.fh.size/\P3 s 2=true)/\
  (s.fp=2/\s.fk=1->0<=s.fo/\s.fo<=6/\s.fq.size=0/\P3 s 0=true)/\
  (s.fp=2/\s.fk=4->1<=s.fo/\s.fo<=7/\s.fq.size=168+s.fh.size/\P3 s 1=true):=by
 obtain⟨x,hx,l1,l2,l3,l4,l5,l6,l7,l8⟩:=Ia h;simp only[Y8,zY,wj,or_false] at hx;rcases hx with rfl|rfl|rfl|rfl|rfl|rfl|rfl|rfl|rfl|rfl|rfl<;>simp only[Uy] at l1 l2 l3 l4 l5 l7<;>refine⟨λq=>?_,λq=>?_,λq=>?_,λq=>?_,λq=>?_,λq=>?_⟩<;>first|(exfalso;omega)|(refine⟨?_,?_,?_,?_⟩<;>first|omega|exact l7|(simp at l5;omega))|(refine⟨?_,?_,?_⟩<;>first|omega|exact l7|(simp at l5;omega))|(refine⟨?_,?_⟩<;>first|omega|exact l7|(simp at l5;omega))
theorem Ke{s:Q3}(f:Fx s)(h7:s.fk≠7){st:Int}(k:Int)(b:ze)(hst:st≠7)(P:K4)(T M:ze):Fx { Me s st k b with fj:=P,fq:=T,fC:=M }:=by
 refine⟨f.nw,f.sc,f.fr,f.rn,f.ck,f.pr,f.bd,?_,yK f.wy h7 hst rfl⟩;show Zt (Mm st s.fm)=true;unfold Mm;split
 ·rfl
 ·exact PX (T4.1 f.nw).1
theorem MF{st now:Int}(h:¬(st=1\/st=6))(hn:0<=now):decide (0<=(Mm st now).fB)=true:=by
 unfold Mm UX;rw[if_neg h];simp;omega
theorem Mh{s:ze}(h:ZA s=true):s.size=32:=YN h
theorem TH{s:Q3}(h:QZ s=true){r:Q3×List Q9}(hr:HR s=.inl r):QZ r.1=true:=by
 obtain⟨h1,h2⟩:=R0 h;have f:=(M0 s).1 h1;unfold HR at hr;cases hc:(s.fp==1&&s.fk==1) with
 | false=>rw[hc] at hr;cases hr
 | true=>
  rw[hc] at hr;obtain rfl:=Sum.inl.inj hr;simp only[zL,beq_iff_eq] at hc;obtain⟨g1,g2,g3⟩:=(UA h2).1 hc;have pz:=Ly g3;refine C5 ((M0 _).2 (Ke f (by omega) 1 _ (by decide) s.fj s.fq s.fC)) (F4 ⟨1,2,1,1,0,0,1,true⟩ (by simp[Y8]) ⟨hc.1,rfl,?_,?_,?_,(MF (by decide) (T4.1 f.nw).1).symm,g3,?_⟩)
  ·show (1:Int)<=s.fo+1;omega
  ·show s.fo+1<=(1:Int);omega
  ·show (s.fq.size:Int)=0;omega
  ·exact Km rfl (by decide) (by rw[ByteArray.size_append,F7,Mh f.rn];decide) (by omega) rfl
theorem Vq{s:Q3}(h:QZ s=true)(hs:s.fp=1/\(s.fk=2\/s.fk=3)){b:ze}{r:Q3×List Q9}(hr:S8 s b=.inl r):QZ r.1=true:=by
 obtain⟨h1,h2⟩:=R0 h;have f:=(M0 s).1 h1;obtain⟨g1,g2,g3⟩:=(UA h2).2.1 hs;unfold S8 at hr;split at hr
 ·cases hr
 ·rename_i hb;split at hr
  ·cases hr
  ·rename_i hq;obtain rfl:=Sum.inl.inj hr;have hb:b.size=32:=by simpa using hb
   have z:(s.fG++Uw s++b).size=96:=by rw[ByteArray.size_append,ByteArray.size_append,F7,Mh f.rn,hb]
   refine C5 ((M0 _).2 (Ke f (by omega) 1 _ (by decide) s.fj _ s.fC)) (F4 ⟨1,3,2,7,100,0,1,true⟩ (by simp[Y8]) ⟨hs.1,rfl,?_,?_,?_,(MF (by decide) (T4.1 f.nw).1).symm,g3,?_⟩)
   ·show (2:Int)<=s.fo+1;omega
   ·show s.fo+1<=(7:Int);omega
   ·show ((Zx 1 (s.fG++Uw s++b)).size:Int)=100;rw[K0,z];rfl
   ·exact Km rfl (by decide) (by rw[z];decide) (by omega) rfl
theorem Rj(a b c d:ze):(Vb a b c d).size=32:=B8 _ _
theorem BE{s:Q3}(h:QZ s=true)(hs:s.fp=1/\s.fk=3){b:ze}:(∀r,O1 s b=.inl r->QZ r.1=true)/\∀e,O1 s b=.inr (true,e)->QZ (JU s e)=true:=by
 obtain⟨h1,h2⟩:=R0 h;have f:=(M0 s).1 h1;obtain⟨g1,g2,g3⟩:=(UA h2).2.1 ⟨hs.1,.inr hs.2⟩;obtain⟨g4,g5⟩:=(UA h2).2.2.1 hs;unfold O1;by_cases c1:¬64 < b.size
 ·rw[if_pos c1];exact⟨λr hr=>(by cases hr),λe he=>by cases he⟩
 rw[if_neg c1];by_cases c2:okB (b.extract 64 b.size)=false
 ·rw[if_pos c2];exact⟨λr hr=>(by cases hr),λe he=>by cases he⟩
 rw[if_neg c2];have c2:okB (b.extract 64 b.size)=true:=by simpa using c2
 have ac:=Pk f (XW c2).2;by_cases c3:Yo (Zm (b.extract 64 b.size)) s.fL s.fm≠0
 ·rw[if_pos c3];exact⟨λr hr=>(by cases hr),λe he=>(Prod.mk.inj (Sum.inr.inj he)).2▸Jk h (by omega)⟩
 rw[if_neg c3];by_cases c4:xS s.fZ (Zm (b.extract 64 b.size)).fJ=Oj\/xS s.gd (b.extract 32 64)=Oj
 ·rw[if_pos c4];exact⟨λr hr=>(by cases hr),λe he=>(Prod.mk.inj (Sum.inr.inj he)).2▸Jk h (.inl rfl)⟩
 rw[if_neg c4];refine⟨λr hr=>?_,λe he=>(by cases he)⟩;obtain rfl:=Sum.inl.inj hr;have zb:(b.extract 64 b.size).size=b.size - 64:=by rw[ByteArray.size_extract];omega
 have zB:(HH s b).size=32+s.fh.size:=by unfold HH;rw[ByteArray.size_append,M9]
 have bz:=Yq f.bd;refine C5 ((M0 _).2 (Ke f (by omega) 4 _ (by decide) _ _ _)) (F4 ⟨1,5,3,8,204,2,4,true⟩ (by simp[Y8]) ⟨hs.1,rfl,?_,?_,?_,(MF (by decide) (T4.1 f.nw).1).symm,?_,?_⟩)
 ·show (3:Int)<=s.fo+1;omega
 ·show s.fo+1<=(8:Int);omega
 ·show ((Jl s b++Zx 4 (HH s b)).size:Int)=204+(s.fh.size:Int)+((b.extract 64 b.size).size:Int);unfold Jl;rw[ByteArray.size_append,ByteArray.size_append,K0,K0,zB,zb,g5];omega
 ·show (ZA (b.extract 0 32)&&(ZA (b.extract 32 64)&&(ZA (Xs s b)&&okB (b.extract 64 b.size))))=true;rw[c2,JE (by rw[ByteArray.size_extract];omega),JE (by rw[ByteArray.size_extract];omega),JE (show (Xs s b).size=32 from Rj _ _ _ _)];rfl
 ·exact Km rfl (by decide) (by rw[zB];omega) (by omega) rfl
theorem xJ{s:Q3}(h:QZ s=true)(hs:s.fp=1/\s.fk=5){b:ze}:(∀r,Hc s b=.inl r->QZ r.1=true)/\∀e,Hc s b=.inr (true,e)->QZ (JU s e)=true:=by
 obtain⟨h1,h2⟩:=R0 h;have f:=(M0 s).1 h1;obtain⟨g1,g2,g3,g4⟩:=(UA h2).2.2.2.1 hs;unfold Hc;by_cases c1:b.size≠32
 ·rw[if_pos c1];exact⟨λr hr=>(by cases hr),λe he=>by cases he⟩
 rw[if_neg c1];by_cases c2:b≠K3 s.fC Jo s.fq
 ·rw[if_pos c2];exact⟨λr hr=>(by cases hr),λe he=>(Prod.mk.inj (Sum.inr.inj he)).2▸Jk h (by decide)⟩
 rw[if_neg c2];refine⟨λr hr=>?_,λe he=>(by cases he)⟩;obtain rfl:=Sum.inl.inj hr;refine C5 ((M0 _).2 ⟨f.nw,f.sc,f.fr,f.rn,f.ck,f.pr,f.bd,Fz,yK f.wy (by omega) (show (6:Int)≠7 by decide) rfl⟩) (F4 ⟨1,6,3,8,240,2,0,false⟩ (by simp[Y8]) ⟨hs.1,rfl,g1,g2,?_,rfl,g4,Wg rfl⟩);show ((s.fq++Zx 5 b).size:Int)=240+(s.fh.size:Int)+(s.fj.fh.size:Int);rw[ByteArray.size_append,K0,g3];omega
theorem VH{s:Q3}(h:QZ s=true)(hs:s.fp=2/\s.fk=1){from_ b:ze}{r:Q3×List Q9}(hr:G1 s from_ b=.inl r):QZ r.1=true:=by
 obtain⟨h1,h2⟩:=R0 h;have f:=(M0 s).1 h1;obtain⟨g1,g2,g3,g4⟩:=(UA h2).q.1 hs;have pz:=Ly g4;unfold G1 at hr;split at hr
 ·cases hr
 rename_i c1;split at hr
 ·split at hr
  ·cases hr
  rename_i c3;obtain rfl:=Sum.inl.inj hr;refine C5 ((M0 _).2 (Ke f (by omega) 2 _ (by decide) s.fj s.fq s.fC)) (F4 ⟨2,1,1,6,0,0,2,false⟩ (by simp[Y8]) ⟨hs.1,rfl,?_,?_,?_,rfl,g4,?_⟩)
  ·show (1:Int)<=s.fo+1;omega
  ·show s.fo+1<=(6:Int);omega
  ·show (s.fq.size:Int)=0;omega
  ·exact Km rfl (by decide) (by rw[B8];decide) (by omega) rfl
 ·rename_i c2;obtain rfl:=Sum.inl.inj hr;have c2:b.extract 64 b.size=V2 s.gb (from_++b.extract 0 64):=by simpa using c2
  have zb:b.size=96:=by
   have e:=congrArg ByteArray.size c2;rw[B8,ByteArray.size_extract] at e;omega
  have zh:(HJ s).size=64+s.fh.size:=by unfold HJ;rw[ByteArray.size_append,ByteArray.size_append,F7,Mh f.rn]
  have bz:=Yq f.bd;refine C5 ((M0 _).2 (Ke f (by omega) 3 _ (by decide) _ _ s.fC)) (F4 ⟨2,4,1,7,168,1,3,true⟩ (by simp[Y8]) ⟨hs.1,rfl,?_,?_,?_,(MF (by decide) (T4.1 f.nw).1).symm,?_,?_⟩)
  ·show (1:Int)<=s.fo+1;omega
  ·show s.fo+1<=(7:Int);omega
  ·show ((Dx s b++Zx 3 (HJ s)).size:Int)=168+(s.fh.size:Int);unfold Dx;rw[ByteArray.size_append,ByteArray.size_append,K0,K0,zh,zb,g3];omega
  ·show (ZA (b.extract 0 32)&&(ZA (b.extract 32 64)&&(HK zg&&HK s.fC)))=true;rw[pz.2,JE (by rw[ByteArray.size_extract];omega),JE (by rw[ByteArray.size_extract];omega)];decide
  ·exact Km rfl (by decide) (by rw[zh];omega) (by omega) rfl
theorem Vy{s:Q3}(h:QZ s=true)(hs:s.fp=2/\s.fk=4){b:ze}:(∀r,R6 s b=.inl r->QZ r.1=true)/\∀e,R6 s b=.inr (true,e)->QZ (JU s e)=true:=by
 obtain⟨h1,h2⟩:=R0 h;have f:=(M0 s).1 h1;obtain⟨g1,g2,g3,g4⟩:=(UA h2).q.2 hs;unfold R6;by_cases c1:¬32 < b.size
 ·rw[if_pos c1];exact⟨λr hr=>(by cases hr),λe he=>by cases he⟩
 rw[if_neg c1];by_cases c2:okB (b.extract 32 b.size)=false
 ·rw[if_pos c2];exact⟨λr hr=>(by cases hr),λe he=>by cases he⟩
 rw[if_neg c2];have c2:okB (b.extract 32 b.size)=true:=by simpa using c2
 have ac:=Pk f (XW c2).2;by_cases c3:Yo (Zm (b.extract 32 b.size)) s.fL s.fm≠0
 ·rw[if_pos c3];exact⟨λr hr=>(by cases hr),λe he=>(Prod.mk.inj (Sum.inr.inj he)).2▸Jk h (by omega)⟩
 rw[if_neg c3];by_cases c4:xS s.gd s.fj.fR=Oj\/xS s.fZ (Zm (b.extract 32 b.size)).fJ=Oj
 ·rw[if_pos c4];exact⟨λr hr=>(by cases hr),λe he=>(Prod.mk.inj (Sum.inr.inj he)).2▸Jk h (.inl rfl)⟩
 rw[if_neg c4];by_cases c5:b.extract 0 32≠K3 (Um s b) Yc (s.fq++b.extract 32 b.size)
 ·rw[if_pos c5];exact⟨λr hr=>(by cases hr),λe he=>(Prod.mk.inj (Sum.inr.inj he)).2▸Jk h (by decide)⟩
 rw[if_neg c5];refine⟨λr hr=>?_,λe he=>(by cases he)⟩;obtain rfl:=Sum.inl.inj hr;have zb:(b.extract 32 b.size).size=b.size - 32:=by rw[ByteArray.size_extract];omega
 have zC:(Wh s b).size=32:=M9 _ _ _;have g4':ZA s.fj.fG=true/\ZA s.fj.fR=true:=by
  unfold P3 at g4;simp only[show ¬(1:Int)=0 by decide,if_true,if_false,zL] at g4;exact⟨g4.1,g4.2.1⟩
 refine C5 ((M0 _).2 (Ke f (by omega) 5 _ (by decide) _ _ _)) (F4 ⟨2,6,2,8,240,2,5,false⟩ (by simp[Y8]) ⟨hs.1,rfl,?_,?_,?_,rfl,?_,?_⟩)
 ·show (2:Int)<=s.fo+1;omega
 ·show s.fo+1<=(8:Int);omega
 ·show ((Ml s b++Zx 5 (Wh s b)).size:Int)=240+(s.fh.size:Int)+((b.extract 32 b.size).size:Int);unfold Ml;rw[ByteArray.size_append,ByteArray.size_append,K0,K0,zC,zb,g3];omega
 ·show (ZA s.fj.fG&&(ZA s.fj.fR&&(ZA (Um s b)&&okB (b.extract 32 b.size))))=true;rw[c2,g4'.1,g4'.2,JE (show (Um s b).size=32 from Rj _ _ _ _)];rfl
 ·exact Km rfl (by decide) (by rw[zC];decide) (by omega) rfl
theorem Tq{t:Y1}{now:Int}(h:(Ub t now).1=true):Zt t=true/\T5 now=true/\0<=t.fB/\(Ub t now).2=0:=by
 unfold Ub at *;cases h1:Zt t with
 | false=>rw[h1] at h;cases h
 | true=>
  cases h2:T5 now with
  | false=>rw[h1,h2] at h;cases h
  | true=>
   rw[h1,h2] at h;simp only[Bool.not_true,cond_false,zL,zM] at h;exact⟨rfl,rfl,h.1,rfl⟩
theorem yM(k:Int):0<=ZG k:=by unfold ZG;repeat' split<;>try decide
theorem Quj{t:Y1}{now:Int}(h:(Ub t now).1=true)(h2:(GD t now).2=0):Zt (GD t now).1=true/\0<=(GD t now).1.fB:=by
 obtain⟨g1,g2,g3,g4⟩:=Tq h;have gn:=T4.1 g2;have e:GD t now=bif t.fO==8 then (stZ,4) else (⟨now+ZG (t.fO+1),ZG (t.fO+1),t.fO+1⟩,0):=by
  unfold GD;rw[g4,h];rfl
 rw[e] at h2 ⊢;cases h8:(t.fO==8) with
 | true=>rw[h8] at h2;cases h2
 | false=>
  rw[h8] at h2;simp only[cond_false];have h8:t.fO≠8:=by simpa using h8
  have hw:=yM (t.fO+1);unfold Zt at g1 ⊢;rw[show (t.fB==-1)=false by simp;omega] at g1;simp only[cond_false,zL,zM] at g1;rw[show (now+ZG (t.fO+1)==-1)=false by simp;omega];simp only[cond_false,zL,zM,beq_self_eq_true,and_true];omega
theorem yG{s:Q3}(h:QZ s=true):(∀r,HI s=.inl r->QZ r.1=true)/\∀e,HI s=.inr (true,e)->QZ (JU s e)=true:=by
 obtain⟨h1,h2⟩:=R0 h;have f:=(M0 s).1 h1;unfold HI;cases hd:(Ub s.fD s.fm).1 with
 | false=>exact⟨λr hr=>by obtain rfl:=Sum.inl.inj hr;exact h,λe he=>(by cases he)⟩
 | true=>
  cases ha:(GD s.fD s.fm).2 != 0 with
  | true=>exact⟨λr hr=>(by cases hr),λe he=>(Prod.mk.inj (Sum.inr.inj he)).2▸Jk h (by decide)⟩
  | false=>
   refine⟨λr hr=>?_,λe he=>(by cases he)⟩;obtain rfl:=Sum.inl.inj hr;have ha:(GD s.fD s.fm).2=0:=by simpa using ha
   obtain⟨q1,q2⟩:=Quj hd ha;obtain⟨g1,g2,g3,g4⟩:=Tq hd;obtain⟨x,hx,l1,l2,l3,l4,l5,l6,l7,l8⟩:=Ia h2;refine C5 ((M0 _).2 ⟨f.nw,f.sc,f.fr,f.rn,f.ck,f.pr,f.bd,q1,f.wy⟩) (F4 x hx ⟨l1,l2,l3,l4,l5,?_,l7,l8⟩);rw[l6];show decide _=decide (0<=(GD s.fD s.fm).1.fB);rw[wg g3,wg q2]
theorem VW{s:Q3}(h:QZ s=true)(f:ze)(n:Q9):(∀r,U9 s f n=.inl r->QZ r.1=true)/\∀e,U9 s f n=.inr (true,e)->QZ (JU s e)=true:=by
 unfold U9;by_cases c1:s.fp=1/\(s.fk=2\/s.fk=3)/\n.fw=2
 ·rw[if_pos c1];refine⟨λr hr=>Vq h ⟨c1.1,c1.2.1⟩ hr,λe he=>?_⟩;unfold S8 at he;split at he
  ·cases he
  split at he<;>cases he
 rw[if_neg c1];by_cases c2:s.fp=1/\s.fk=3/\n.fw=3
 ·rw[if_pos c2];exact BE h ⟨c2.1,c2.2.1⟩
 rw[if_neg c2];by_cases c3:s.fp=1/\s.fk=5/\n.fw=5
 ·rw[if_pos c3];exact xJ h ⟨c3.1,c3.2.1⟩
 rw[if_neg c3];by_cases c4:s.fp=2/\s.fk=1/\n.fw=1
 ·rw[if_pos c4];refine⟨λr hr=>VH h ⟨c4.1,c4.2.1⟩ hr,λe he=>?_⟩;unfold G1 at he;split at he
  ·cases he
  split at he
  ·split at he<;>cases he
  ·cases he
 rw[if_neg c4];by_cases c5:s.fp=2/\s.fk=4/\n.fw=4
 ·rw[if_pos c5];exact Vy h ⟨c5.1,c5.2.1⟩
 rw[if_neg c5];exact⟨λr hr=>(by cases hr),λe he=>(by cases he)⟩
theorem dA{s:Q3}(h:QZ s=true)(v:Q7):(∀r,Kx s v=.inl r->QZ r.1=true)/\∀e,Kx s v=.inr (true,e)->QZ (JU s e)=true:=by
 unfold Kx;by_cases c1:v.fw=1
 ·rw[if_pos c1];refine⟨λr hr=>TH h hr,λe he=>?_⟩;unfold HR at he;cases hc:(s.fp==1&&s.fk==1)<;>rw[hc] at he<;>cases he
 rw[if_neg c1];by_cases c2:v.fw=2
 ·rw[if_pos c2];exact VW h _ _
 rw[if_neg c2];by_cases c3:v.fw=3
 ·rw[if_pos c3];exact yG h
 rw[if_neg c3];exact⟨λr hr=>by obtain rfl:=Sum.inl.inj hr;exact h,λe he=>(by cases he)⟩
def iS(x:Out):Prop:=x≠.inr (false,0)
theorem KU(r:Q3×List Q9):iS (.inl r):=λh=>by cases h
theorem AB(e:Int):iS (.inr (true,e)):=λh=>absurd (Prod.mk.inj (Sum.inr.inj h)).1 (by decide)
theorem Wa{e:Int}(he:e≠0):iS (.inr (false,e)):=λh=>he (Prod.mk.inj (Sum.inr.inj h)).2
theorem D8{p:Prop}[Decidable p]{x y:Out}(hx:iS x)(hy:iS y):iS (if p then x else y):=by split<;>assumption
theorem FR{p:Bool}{x y:Out}(hx:iS x)(hy:iS y):iS (bif p then x else y):=by cases p<;>assumption
theorem dI(s:Q3)(v:Q7):iS (Kx s v):=by
 unfold Kx;refine D8 ?_ (D8 ?_ (D8 ?_ (KU _)))
 ·exact FR (KU _) (Wa (by decide))
 ·unfold U9;refine D8 ?_ (D8 ?_ (D8 ?_ (D8 ?_ (D8 ?_ (Wa (by decide))))))
  ·exact D8 (Wa (by decide)) (D8 (Wa (by decide)) (KU _))
  ·exact D8 (Wa (by decide)) (D8 (Wa (by decide)) (D8 (AB _) (D8 (AB _) (KU _))))
  ·exact D8 (Wa (by decide)) (D8 (AB _) (KU _))
  ·exact D8 (Wa (by decide)) (D8 (D8 (Wa (by decide)) (KU _)) (KU _))
  ·exact D8 (Wa (by decide)) (D8 (Wa (by decide)) (D8 (AB _) (D8 (AB _) (D8 (AB _) (KU _)))))
 ·exact FR (KU _) (FR (AB _) (KU _))
theorem dO{s:Q3}(h:T5 s.fm=true){v:Q7}(he:Bi s v=true):T5 v.fm=true:=by
 unfold Bi at he;simp only[zL,zM] at he;have:=T4.1 h;exact T4.2 (by omega)
theorem YC{s:Q3}{v:Q7}(h:(U7 s v).2.2=0):QZ (U7 s v).1=true:=by
 unfold U7 at *;cases hs:QZ s with
 | false=>rw[hs] at h;exact absurd h (show (200:Int)≠0 by decide)
 | true=>
  rw[hs] at h;cases he:Bi s v with
  | false=>rw[he] at h;exact absurd h (show (2:Int)≠0 by decide)
  | true=>
   rw[he] at h;have h0:=Cq hs (dO ((M0 s).1 (R0 hs).1).nw he);have k:=dA h0 v;have z:=dI { s with fm:=v.fm } v;simp only[cond_true] at h ⊢;match hq:Kx { s with fm:=v.fm } v with
   | .inl r=>exact k.1 r hq
   | .inr (true,e)=>exact k.2 e hq
   | .inr (false,e)=>
    rw[hq] at h;have:e=0:=h;rw[this] at hq;exact absurd hq z
theorem Nl{s:Q3}{v:Q7}(hs:QZ s=true)(he:Bi s v=true):U7 s v=Gg { s with fm:=v.fm } (Kx { s with fm:=v.fm } v):=by
 unfold U7;rw[hs,he];rfl
theorem Jx{n:Int}(h0:0<=n)(h:n < 32):(bif decide (0<=n)&&decide (n < ((32:Nat):Int)) then some () else none)=some ():=by
 grind
theorem KC{f:zl}{j n:Nat}(hj:j=n)(h:n < 32):(vec f)[j]?=some (f n):=by rw[hj,LP,if_pos h]
theorem gQ(a b c:Zy)(hc:∀k,c.getMsbD k=(a.getMsbD k ^^ b.getMsbD k)):Qy (TA a.getMsbD b.getMsbD) (λr=>r=c.getMsbD):=by
 unfold TA;refine Qy.fn ?_;unfold Qk8;refine Ok.o rfl (Ok.o rfl (Ok.o rfl (Ok.o rfl (Ok.b (R:=λe=>e=c.getMsbD) ?_ λe he=>Ok.o rfl (Ok.o rfl (Ok.d he))))));refine Ok.s 32 (by decide) (λk y=>y=(λi=>decide (i < k)&&c.getMsbD i,(k:Int))) (by grind) (λk y hy hk=>?_) λy hy=>?_
 ·subst hy;refine Ok.t (by simp;omega) (Ok.o (r:=()) (Jx (by simp) (by grind)) (Ok.r rfl (KC (n:=k) (by simp) hk) (Ok.o (r:=()) (Jx (by simp) (by grind)) (Ok.r rfl (KC (n:=k) (by simp) hk) (Ok.o (r:=()) (Jx (by simp) (by grind)) (Ok.r rfl (KC (n:=k) (by simp) hk) (Ok.re (Ok.d ?_))))))));show (_,_)=_;rw[Y0 hk (by decide),<-Az,hc];grind
 ·subst hy;exact Ok.f rfl (Ok.d (Ij _))
theorem SJ(a b:Zy):Qy (TA a.getMsbD b.getMsbD) (λr=>r=(a ^^^ b).getMsbD):=gQ a b _ λ_=>BitVec.getMsbD_xor
theorem gH(a b c:Zy)(hc:∀k,c.getMsbD k=(a.getMsbD k&&b.getMsbD k)):Qy (NY a.getMsbD b.getMsbD) (λr=>r=c.getMsbD):=by
 unfold NY;refine Qy.fn ?_;unfold Qk7;refine Ok.o rfl (Ok.o rfl (Ok.o rfl (Ok.o rfl (Ok.b (R:=λe=>e=c.getMsbD) ?_ λe he=>Ok.o rfl (Ok.o rfl (Ok.d he))))));refine Ok.s 32 (by decide) (λk y=>y=(λi=>decide (i < k)&&c.getMsbD i,(k:Int))) (by grind) (λk y hy hk=>?_) λy hy=>?_
 ·subst hy;have g:∀x:Bool,x=c.getMsbD k->(Nd (λi=>decide (i < k)&&c.getMsbD i) (0+((k:Int)).toNat) x,Q0 ((k:Int)+1))=(λi=>decide (i < k+1)&&c.getMsbD i,((k+1:Nat):Int)):=λx hx=>by
   rw[Y0 hk (by decide),<-Az,hx];grind
  refine Ok.t (by simp;omega) (Ok.o (r:=()) (Jx (by simp) (by grind)) (Ok.r rfl (KC (n:=k) (by simp) hk) (Ok.e (λh=>?_) λh=>?_)))
  ·exact Ok.o (r:=()) (Jx (by simp) (by grind)) (Ok.r rfl (KC (n:=k) (by simp) hk) (Ok.o (r:=()) (Jx (by simp) (by grind)) (Ok.r rfl (KC (n:=k) (by simp) hk) (by grind [Ok.re,Ok.d]))))
  ·exact Ok.o (r:=()) (Jx (by simp) (by grind)) (Ok.r rfl (KC (n:=k) (by simp) hk) (by grind [Ok.re,Ok.d]))
 ·subst hy;exact Ok.f rfl (Ok.d (Ij _))
theorem AD(a b:Zy):Qy (NY a.getMsbD b.getMsbD) (λr=>r=(a &&& b).getMsbD):=gH a b _ λ_=>BitVec.getMsbD_and
theorem gJ(a c:Zy)(hc:∀k,c.getMsbD k=(decide (k < 32)&&!a.getMsbD k)):Qy (oS a.getMsbD) (λr=>r=c.getMsbD):=by
 unfold oS;refine Qy.fn ?_;unfold Qk6;refine Ok.o rfl (Ok.o rfl (Ok.o rfl (Ok.b (R:=λe=>e=c.getMsbD) ?_ λe he=>Ok.o rfl (Ok.o rfl (Ok.d he)))));refine Ok.s 32 (by decide) (λk y=>y=(λi=>decide (i < k)&&c.getMsbD i,(k:Int))) (by grind) (λk y hy hk=>?_) λy hy=>?_
 ·subst hy;refine Ok.t (by simp;omega) (Ok.o (r:=()) (Jx (by simp) (by grind)) (Ok.r rfl (KC (n:=k) (by simp) hk) (Ok.o (r:=()) (Jx (by simp) (by grind)) (Ok.r rfl (KC (n:=k) (by simp) hk) (Ok.re (Ok.d ?_))))));show (_,_)=_;rw[Y0 hk (by decide),<-Az,hc];grind
 ·subst hy;exact Ok.f rfl (Ok.d (Ij _))
theorem Qz5(a:Zy):Qy (oS a.getMsbD) (λr=>r=(~~~a).getMsbD):=gJ a _ λ_=>BitVec.getMsbD_not
theorem F8(a:Zy)(c:Nat)(hc:c < 32):Qy (Xh a.getMsbD (c:Int)) (λr=>r=(a.rotateRight c).getMsbD):=by
 unfold Xh;refine Qy.fn ?_;unfold Qkq;refine Ok.o rfl (Ok.o rfl (Ok.o rfl (Ok.b (R:=λe=>e=(a.rotateRight c).getMsbD) ?_ λe he=>Ok.o rfl (Ok.o rfl (Ok.d he)))));have back:∀j,j < 32->(a.rotateRight c).getMsbD j=a.getMsbD ((j+32 - c) % 32):=(by grind);refine Ok.s 32 (by decide) (λk y=>y=(λj=>(decide (j < 32)&&decide ((j+32 - c) % 32 < k))&&a.getMsbD ((j+32 - c) % 32),(k:Int))) (by
  grind) (λk y hy hk=>?_) λy hy=>?_
 ·subst hy;have e1:Int.tmod (Q0 ((k:Int)+(c:Int))) 32=(((k+c) % 32:Nat):Int):=by
   grind [Z2,Int.tmod_eq_emod_of_nonneg]
  have hm:(k+c) % 32 < 32:=Nat.mod_lt _ (by decide);refine Ok.t (by simp;omega) (Ok.o (r:=()) (Jx (by simp) (by grind)) (Ok.r rfl (KC (n:=k) (by simp) hk) (Ok.o (r:=()) (Jx (by rw[e1];omega) (by rw[e1];omega)) (Ok.r rfl (KC (n:=(k+c) % 32) (by grind) hm) (Ok.re (Ok.d ?_))))));show (_,_)=_;rw[Y0 hk (by decide),e1];congr 1;funext j;simp only[zW,we,Nd];by_cases hj:j=(k+c) % 32
  ·subst hj;have:((k+c) % 32+32 - c) % 32=k:=by omega
   grind
  grind
 ·subst hy;refine Ok.f rfl (Ok.d ?_);grind
theorem NG(a:Zy)(c:Nat)(hc:c < 32):Qy (oC a.getMsbD (c:Int)) (λr=>r=(a >>> c).getMsbD):=by
 unfold oC;refine Qy.fn ?_;unfold Qk9;refine Ok.o rfl (Ok.o rfl (Ok.o rfl (Ok.b (R:=λe=>e=(a >>> c).getMsbD) ?_ λe he=>Ok.o rfl (Ok.o rfl (Ok.d he)))));refine Ok.s (32 - c) (by omega) (λk y=>y=(λj=>(decide (c<=j)&&decide (j < k+c))&&a.getMsbD (j - c),(k:Int))) (by
  grind) (λk y hy hk=>?_) λy hy=>?_
 ·subst hy;have e1:Q0 ((k:Int)+(c:Int))=((k+c:Nat):Int):=by grind [Z2]
  refine Ok.t (by grind) (Ok.o (r:=()) (Jx (by simp) (by simp;omega)) (Ok.r rfl (KC (n:=k) (by simp) (by omega)) (Ok.o (r:=()) (Jx (by rw[e1];omega) (by rw[e1];omega)) (Ok.r rfl (KC (n:=k+c) (by grind) (by omega)) (Ok.re (Ok.d ?_))))));show (_,_)=_;rw[Y0 (n:=32) (by omega) (by decide),e1];congr 1;funext j;simp only[zW,we,Nd];grind
 grind [Ok.f,Z2,Ok.d]
theorem bK(a:Zy){k:Nat}(hk:k < 32):a.getMsbD k=decide (a.toNat / 2 ^ (31 - k) % 2=1):=by
 rw[BitVec.getMsbD,BitVec.getLsbD,Nat.testBit_eq_decide_div_mod_eq];simp[hk]
theorem Ui(a:Zy):Qy (NJ a.getMsbD) (λr=>r=iv a):=by
 unfold NJ;refine Qy.fn ?_;unfold Qky;have hlt:=a.isLt;refine Ok.o rfl (Ok.b (R:=λe=>e=iv a) ?_ λe he=>Ok.d he);refine Ok.s 32 (by decide) (λk y=>y=(((a.toNat / 2 ^ (32 - k):Nat):Int),(k:Int))) (by
  grind) (λk y hy hk=>?_) λy hy=>?_
 ·subst hy;have hb:=bK a hk;have hd:a.toNat / 2 ^ (31 - k) / 2=a.toNat / 2 ^ (32 - k):=by rw[Nat.div_div_eq_div_mul,show 32 - k=31 - k+1 by omega,Nat.pow_succ]
  have hs:a.toNat / 2 ^ (31 - k)<=a.toNat:=Nat.div_le_self _ _;rw[show 32 - (k+1)=31 - k by omega];generalize a.toNat / 2 ^ (31 - k)=q at hb hd hs ⊢;rw[<-hd];refine Ok.t (by simp;omega) (Ok.o (r:=()) (Jx (by simp) (by grind)) (Ok.r rfl (KC (n:=k) (by simp) hk) ?_));refine Ok.e (λh=>Ok.d ?_) λh=>Ok.d ?_
  ·show (_,_)=_;rw[hb,zM] at h;grind [Y0,Z2]
  grind [decide_eq_false_iff_not,Y0,Z2]
 ·subst hy;refine Ok.f rfl (Ok.d ?_);simp_all [Nat.pow_zero,Nat.div_one,iv]
theorem Js(a:Zy):Qy (Oe (iv a)) (λr=>r=a.getMsbD):=by
 unfold Oe;refine Qy.fn ?_;unfold Qkj;have hlt:=a.isLt;refine Ok.o rfl (Ok.o rfl (Ok.b (R:=λe=>e=a.getMsbD) ?_ λe he=>Ok.o rfl (Ok.o rfl (Ok.d he))));refine Ok.s 32 (by decide) (λk y=>y=(λj=>(decide (32 - k<=j)&&decide (j < 32))&&a.getMsbD j,((a.toNat / 2 ^ k:Nat):Int),(31:Int) - (k:Int))) (by
  show (_,_,_)=_;rw[Nat.pow_zero,Nat.div_one];congr 1;grind) (λk y hy hk=>?_) λy hy=>?_
 ·subst hy;have hb:=bK a (k:=31 - k) (by omega);rw[show 31 - (31 - k)=k by omega] at hb;have hd:a.toNat / 2 ^ k / 2=a.toNat / 2 ^ (k+1):=by rw[Nat.div_div_eq_div_mul,Nat.pow_succ]
  have hs:a.toNat / 2 ^ k<=a.toNat:=Nat.div_le_self _ _;rw[<-hd];generalize a.toNat / 2 ^ k=q at hb hd hs ⊢;have e1:(31:Int) - (k:Int)=((31 - k:Nat):Int):=by omega
  refine Ok.t (by grind) (Ok.o (r:=()) (Jx (by grind) (by grind)) (Ok.r rfl (KC (n:=31 - k) (by grind) (by omega)) (Ok.re (Ok.d ?_))));show (Nd _ _ (Int.tmod (q:Int) 2==1),Q0 (Int.tdiv (q:Int) 2),Q0 ((31:Int) - (k:Int) - 1))=_;rw[Int.tdiv_eq_ediv_of_nonneg (by omega),Z2 (n:=(q:Int) / 2) (by omega) (by omega),Z2 (by omega) (by omega),Int.tmod_eq_emod_of_nonneg (by omega)];congr 1
  ·funext j;simp only[e1,zW,we,Nd];grind
  grind
 ·subst hy;refine Ok.f rfl (Ok.d ?_);grind
theorem Wm(a b c:Zy):Qy (Sq a.getMsbD b.getMsbD c.getMsbD) (λr=>r=(a ^^^ b ^^^ c).getMsbD):=by
 unfold Sq;refine Qy.fn ?_;unfold Qkz;refine Ok.o rfl (Ok.o rfl (Ok.o rfl (Ok.o rfl (Ok.o rfl (Ok.o rfl (Ok.c (SJ a b) λr hr=>?_))))));subst hr;refine Ok.o rfl (Ok.c (SJ _ c) λr hr=>?_);subst hr;exact Ok.o rfl (Ok.d rfl)
theorem gZ(a b c d e:Int)(ha:0<=a/\a < 4294967296)(hb:0<=b/\b < 4294967296)(hc:0<=c/\c < 4294967296)(hd:0<=d/\d < 4294967296)(he:0<=e/\e < 4294967296):Qy (Xw a b c d e) (λr=>r=(a+b+c+d+e) % 4294967296):=by
 refine⟨_,rfl,?_⟩;grind [Z2,Int.tmod_eq_emod_of_nonneg]
theorem qU{s:ze}{k:Nat}(h:k < s.size):(Q2 s)[k]?=some (QQ s (k:Int)):=by
 simp_all [wm,zW,Array.getElem?_toList,wB,wL,Q2,QQ]
theorem XJ(s:ze)(h:s.size<=7):Qy (TR s) (λr=>r=num (Q2 s)):=by
 have hl:=J4 s;have hb:∀c,c∈Q2 s->0<=c/\c < 256:=λc hc=>Ky hc;unfold TR;refine Qy.fn ?_;unfold Qmb;refine Ok.b (R:=λe=>e=num (Q2 s)) ?_ λe he=>Ok.d he;refine Ok.s s.size (by omega) (λk y=>k<=s.size/\y=(num ((Q2 s).take k),(k:Int))) ⟨Nat.zero_le _,rfl⟩ (λk y hy hk=>?_) λy hy=>?_
 ·obtain⟨_,rfl⟩:=hy;refine Ok.t (by simp;omega) (Ok.k (by simp;omega) (Ok.d ?_));obtain⟨x,hx,hx'⟩:=G2 (l:=Q2 s) (k:=k) (by omega);have hbt:QQ s (k:Int)=x:=by
   grind [qU,Option.some.inj]
  have h1:=Cv (n:=k) hb (by omega);have h2:=hb x (wd hx');grind [Rz,Y0,Z2,Q0,num,Q2,QQ]
 ·obtain⟨_,rfl⟩:=hy;grind [Ok.f,Ok.d,List.take_length,num,Q2]
theorem oK(a b c d e:Zy):(iv a+iv b+iv c+iv d+iv e) % 4294967296=iv (a+b+c+d+e):=by
 grind [iv]
theorem Qz1(a b c d e:Zy):Qy (Xw (iv a) (iv b) (iv c) (iv d) (iv e)) (λr=>r=iv (a+b+c+d+e)):=
 (gZ _ _ _ _ _ (Yh a) (Yh b) (Yh c) (Yh d) (Yh e)).mono λr h=>by rw[h,oK]
theorem We(a b:Zy):Qy (Xw (iv a) (iv b) 0 0 0) (λr=>r=iv (a+b)):=
 (show Qy (Xw (iv a) (iv b) 0 0 0) (λr=>r=iv (a+b+0+0+0)) from Qz1 a b 0 0 0).mono λr h=>by rw[h];simp
theorem Qht(a b c d:Zy):Qy (Xw (iv a) (iv b) (iv c) (iv d) 0) (λr=>r=iv (a+b+c+d)):=
 (show Qy (Xw (iv a) (iv b) (iv c) (iv d) 0) (λr=>r=iv (a+b+c+d+0)) from Qz1 a b c d 0).mono λr h=>by rw[h];simp
theorem ix{n:Int}{k m:Nat}(h:n=(k:Int))(hk:k < m):(decide (0<=n)&&decide (n < (m:Int)))=true:=by grind
theorem PV(b:Nat->Zy)(k:Nat):M2 b (k+1)=M2 b k++[if k < 16 then b k else nxt (M2 b k) k]:=rfl
theorem PT(b:Nat->Zy):M2 b 0=[]:=rfl
attribute [local irreducible] M2
theorem kH(t:P0)(ht:t.fK=J2)(v:V8)(s:ze)(hs:s.size=64):Qy (vQ t (l8 v) s) (λr=>r=l8 (pQ KB (bw s) v)):=by
 unfold vQ;refine Qy.fn ?_;unfold Qkn;refine Ok.g (Ok.b (R:=λe=>e=(M2 (bw s) 64).map iv) ?_ λe he=>?_)
 ·refine Ok.s 64 (by decide) (λk y=>y=((M2 (bw s) k).map iv,(k:Int))) (by rw[PT];rfl) (λk y hy hk=>?_) λy hy=>?_
  ·subst hy;have hlen:((M2 (bw s) k).map iv).length=k:=by rw[wO,WG]
   have fin:∀w:Zy,w=(if k < 16 then bw s k else nxt (M2 (bw s) k) k)->(((M2 (bw s) k).map iv)++[iv w],Q0 ((k:Int)+1))=((M2 (bw s) (k+1)).map iv,((k+1:Nat):Int)):=λw hw=>by
    rw[Y0 hk (by decide),PV,<-hw,wW];rfl
   have sz:∀x:Int,(((M2 (bw s) k).map iv).length+[x].length) * 8<=140737488355328:=(by grind);refine Ok.t (by simp;omega) (Ok.e (λhc=>?_) λhc=>?_)
   ·have hc:(k:Int) < 16:=by simpa using hc
    have e1:Q0 ((4:Int) * (k:Int))=((4 * k:Nat):Int):=by grind [Z2]
    have e2:Q0 (((4 * k:Nat):Int)+4)=((4 * k+4:Nat):Int):=by grind [Z2]
    have ez:(s.extract (4 * k) (4 * k+4)).size=4:=by rw[ByteArray.size_extract];omega
    simp only[e1,e2,zW];refine Ok.k (by simp;omega) (Ok.c (XJ _ (by omega)) λr hr=>?_);have hr':r=iv (bw s k):=by
     rw[hr,bw,ivN];have:=mU (l:=Q2 (s.extract (4 * k) (4 * k+4))) λc hc=>Ky hc;rw[J4,ez] at this;omega
    subst hr';exact Ok.app (sz _) (Ok.g (Ok.g (Ok.d (by grind))))
   ·have hc:16<=(k:Int):=by simpa using hc
    have e15:Q0 ((k:Int) - 15)=((k - 15:Nat):Int):=by grind [Z2]
    have e2:Q0 ((k:Int) - 2)=((k - 2:Nat):Int):=by grind [Z2]
    have e16:Q0 ((k:Int) - 16)=((k - 16:Nat):Int):=by grind [Z2]
    have e7:Q0 ((k:Int) - 7)=((k - 7:Nat):Int):=by grind [Z2]
    have look:∀n:Nat,n < k->((M2 (bw s) k).map iv)[0+(n:Int).toNat]?=some (iv (BG (M2 (bw s) k) n)):=λn hn=>by
     simp_all [zW,we,wm,wA,WG,BG]
    simp only[e15,e2,e16,e7];refine Ok.k (ix rfl (by omega)) (Ok.r rfl (look (k - 15) (by omega)) (Ok.c (Js _) λr1 q1=>?_));subst q1;refine Ok.k (ix rfl (by omega)) (Ok.r rfl (look (k - 2) (by omega)) (Ok.c (Js _) λr2 q2=>?_));subst q2;refine Ok.o rfl (Ok.o rfl (Ok.o rfl (Ok.o rfl (Ok.k (ix rfl (by omega)) (Ok.r rfl (look (k - 16) (by omega)) (Ok.k (ix rfl (by omega)) (Ok.r rfl (look (k - 7) (by omega)) ?_)))))));refine Ok.o rfl (Ok.c (F8 _ 7 (by decide)) λr3 q3=>?_);subst q3;refine Ok.o rfl (Ok.c (F8 _ 18 (by decide)) λr4 q4=>?_);subst q4;refine Ok.o rfl (Ok.c (NG _ 3 (by decide)) λr5 q5=>?_);subst q5;refine Ok.c (Wm _ _ _) λr6 q6=>?_;subst q6;refine Ok.c (Ui _) λr7 q7=>?_;subst q7;refine Ok.o rfl (Ok.c (F8 _ 17 (by decide)) λr3 q3=>?_);subst q3;refine Ok.o rfl (Ok.c (F8 _ 19 (by decide)) λr4 q4=>?_);subst q4;refine Ok.o rfl (Ok.c (NG _ 10 (by decide)) λr5 q5=>?_);subst q5;refine Ok.c (Wm _ _ _) λr6 q6=>?_;subst q6;refine Ok.c (Ui _) λr8 q8=>?_;subst q8;refine Ok.c (Qht _ _ _ _) λr9 q9=>?_;subst q9;exact Ok.app (sz _) (Ok.g (Ok.g (Ok.d (fin _ (by rw[if_neg (by omega)];rfl)))))
  ·subst hy;exact Ok.f rfl (Ok.d rfl)
 ·subst he;unfold pQ;have hlen:((M2 (bw s) 64).map iv).length=64:=by rw[wO,WG]
  generalize M2 (bw s) 64=W at hlen ⊢;refine Ok.app (show (0+8) * 8<=140737488355328 by decide) (Ok.g (Ok.b (R:=λe=>e=l8 (GR KB W v 64)) ?_ λe he=>?_))
  ·refine Ok.s 64 (by decide) (λk y=>y=(l8 (GR KB W v k),(k:Int))) rfl (λk y hy hk=>?_) λy hy=>?_
   ·subst hy;rw[GR];generalize GR KB W v k=u;have hW:W.length=64:=by grind
    have lookW:(W.map iv)[0+(k:Int).toNat]?=some (iv (BG W k)):=by
     simp_all [zW,we,wm,wA,BG]
    have lookK:t.fK[(k:Int).toNat]?=some (iv (BG KB k)):=by
     grind [Int.toNat_natCast,WQ,List.getElem?_eq_getElem,CL,bF,J2]
    refine Ok.t (by simp;omega) ?_;refine Ok.k rfl (Ok.r rfl (x:=iv u.a) rfl (Ok.c (Js _) λr q=>?_));subst q;refine Ok.k rfl (Ok.r rfl (x:=iv u.b) rfl (Ok.c (Js _) λr q=>?_));subst q;refine Ok.k rfl (Ok.r rfl (x:=iv u.c) rfl (Ok.c (Js _) λr q=>?_));subst q;refine Ok.o rfl (Ok.o rfl (Ok.o rfl (Ok.o rfl (Ok.o rfl (Ok.o rfl ?_)))));refine Ok.k rfl (Ok.r rfl (x:=iv u.e) rfl (Ok.c (Js _) λr q=>?_));subst q;refine Ok.k rfl (Ok.r rfl (x:=iv u.f) rfl (Ok.c (Js _) λr q=>?_));subst q;refine Ok.k rfl (Ok.r rfl (x:=iv u.g) rfl (Ok.c (Js _) λr q=>?_));subst q;refine Ok.o rfl (Ok.o rfl (Ok.o rfl (Ok.o rfl (Ok.o rfl (Ok.o rfl ?_)))));refine Ok.k rfl (Ok.r rfl (x:=iv u.h) rfl ?_);refine Ok.o rfl (Ok.c (F8 u.e 6 (by decide)) λr q=>?_);subst q;refine Ok.o rfl (Ok.c (F8 u.e 11 (by decide)) λr q=>?_);subst q;refine Ok.o rfl (Ok.c (F8 u.e 25 (by decide)) λr q=>?_);subst q;refine Ok.c (Wm _ _ _) λr q=>?_;subst q;refine Ok.c (Ui _) λr q=>?_;subst q;refine Ok.o rfl (Ok.o rfl (Ok.c (AD u.e u.f) λr q=>?_));subst q;refine Ok.o rfl (Ok.c (Qz5 u.e) λr q=>?_);subst q;refine Ok.o rfl (Ok.c (AD _ u.g) λr q=>?_);subst q;refine Ok.c (SJ _ _) λr q=>?_;subst q;refine Ok.c (Ui _) λr q=>?_;subst q;refine Ok.r (by simp) lookK (Ok.k (by grind) (Ok.r rfl lookW ?_));refine Ok.c (Qz1 _ _ _ _ _) λr q=>?_;subst q;refine Ok.o rfl (Ok.c (F8 u.a 2 (by decide)) λr q=>?_);subst q;refine Ok.o rfl (Ok.c (F8 u.a 13 (by decide)) λr q=>?_);subst q;refine Ok.o rfl (Ok.c (F8 u.a 22 (by decide)) λr q=>?_);subst q;refine Ok.c (Wm _ _ _) λr q=>?_;subst q;refine Ok.c (Ui _) λr q=>?_;subst q;refine Ok.o rfl (Ok.o rfl (Ok.c (AD u.a u.b) λr q=>?_));subst q;refine Ok.o rfl (Ok.o rfl (Ok.c (AD u.a u.c) λr q=>?_));subst q;refine Ok.o rfl (Ok.o rfl (Ok.c (AD u.b u.c) λr q=>?_));subst q;refine Ok.c (Wm _ _ _) λr q=>?_;subst q;refine Ok.c (Ui _) λr q=>?_;subst q;refine Ok.c (We _ _) λr q=>?_;subst q;refine Ok.c (We _ _) λr q=>?_;subst q;refine Ok.k rfl (Ok.r rfl (x:=iv u.a) rfl (Ok.k rfl (Ok.r rfl (x:=iv u.b) rfl (Ok.k rfl (Ok.r rfl (x:=iv u.c) rfl (Ok.k rfl (Ok.r rfl (x:=iv u.d) rfl (Ok.c (We _ _) λr q=>?_))))))));subst q;refine Ok.k rfl (Ok.r rfl (x:=iv u.e) rfl (Ok.k rfl (Ok.r rfl (x:=iv u.f) rfl (Ok.k rfl (Ok.r rfl (x:=iv u.g) rfl (Ok.g (Ok.g (Ok.d ?_))))))));show (_,_)=_;rw[Y0 hk (by decide)];rfl
   ·subst hy;exact Ok.f rfl (Ok.d rfl)
  ·subst he;generalize GR KB W v 64=u;refine Ok.g (Ok.b (R:=λe=>e=l8 (v.add u)) ?_ λe he=>Ok.g (Ok.d he));refine Ok.s 8 (by decide) (λk y=>y=((l8 (v.add u)).take k,(k:Int))) rfl (λk y hy hk=>?_) λy hy=>?_
   ·subst hy;have:k=0\/k=1\/k=2\/k=3\/k=4\/k=5\/k=6\/k=7:=by omega
    rcases this with rfl|rfl|rfl|rfl|rfl|rfl|rfl|rfl
    ·exact Ok.t rfl (Ok.r rfl (x:=iv v.a) rfl (Ok.k rfl (Ok.r rfl (x:=iv u.a) rfl (Ok.c (We _ _) λr q=>Ok.app (by grind) (Ok.g (Ok.g (Ok.d (by subst q;rfl))))))))
    ·exact Ok.t rfl (Ok.r rfl (x:=iv v.b) rfl (Ok.k rfl (Ok.r rfl (x:=iv u.b) rfl (Ok.c (We _ _) λr q=>Ok.app (by grind) (Ok.g (Ok.g (Ok.d (by subst q;rfl))))))))
    ·exact Ok.t rfl (Ok.r rfl (x:=iv v.c) rfl (Ok.k rfl (Ok.r rfl (x:=iv u.c) rfl (Ok.c (We _ _) λr q=>Ok.app (by grind) (Ok.g (Ok.g (Ok.d (by subst q;rfl))))))))
    ·exact Ok.t rfl (Ok.r rfl (x:=iv v.d) rfl (Ok.k rfl (Ok.r rfl (x:=iv u.d) rfl (Ok.c (We _ _) λr q=>Ok.app (by grind) (Ok.g (Ok.g (Ok.d (by subst q;rfl))))))))
    ·exact Ok.t rfl (Ok.r rfl (x:=iv v.e) rfl (Ok.k rfl (Ok.r rfl (x:=iv u.e) rfl (Ok.c (We _ _) λr q=>Ok.app (by grind) (Ok.g (Ok.g (Ok.d (by subst q;rfl))))))))
    ·exact Ok.t rfl (Ok.r rfl (x:=iv v.f) rfl (Ok.k rfl (Ok.r rfl (x:=iv u.f) rfl (Ok.c (We _ _) λr q=>Ok.app (by grind) (Ok.g (Ok.g (Ok.d (by subst q;rfl))))))))
    ·exact Ok.t rfl (Ok.r rfl (x:=iv v.g) rfl (Ok.k rfl (Ok.r rfl (x:=iv u.g) rfl (Ok.c (We _ _) λr q=>Ok.app (by grind) (Ok.g (Ok.g (Ok.d (by subst q;rfl))))))))
    ·exact Ok.t rfl (Ok.r rfl (x:=iv v.h) rfl (Ok.k rfl (Ok.r rfl (x:=iv u.h) rfl (Ok.c (We _ _) λr q=>Ok.app (by grind) (Ok.g (Ok.g (Ok.d (by subst q;rfl))))))))
   ·subst hy;exact Ok.f rfl (Ok.d rfl)
def cJ(t:P0):Prop:=t.gq=l8 vS/\t.fK=J2
theorem gW(t:P0)(ht:cJ t)(s:ze)(hs:s.size<=1000000)(h6:s.size % 64=0)(v:V8):Qy (vT t (l8 v) s) (λr=>r=l8 (A8 s v)):=by
 unfold vT;refine Qy.fn ?_;unfold Qme;refine Ok.b (R:=λe=>e=l8 (A8 s v)) ?_ λe he=>Ok.d he;refine Ok.s (s.size / 64) (by omega) (λk y=>y=(l8 (HQ s v k),((64 * k:Nat):Int))) rfl (λk y hy hk=>?_) λy hy=>?_
 ·subst hy;have e1:Q0 (((64 * k:Nat):Int)+64)=((64 * k+64:Nat):Int):=by grind [Z2]
  simp only[e1,zW];have ez:(s.extract (64 * k) (64 * k+64)).size=64:=by rw[ByteArray.size_extract];omega
  exact Ok.t (by simp;omega) (Ok.k (by simp;omega) (Ok.c (kH t ht.2 _ _ ez) λr hr=>Ok.d (by rw[hr];rfl)))
 grind [Ok.f,Z2,Ok.d,l8,HQ,A8]
theorem uA(n:Nat)(x:Int):List.replicate n x++[x]=List.replicate (n+1) x:=by
 rw[List.replicate_succ']
theorem Qz2(k:Nat)(n:Int)(h0:0<=n)(h:n < 9223372036854775808)(hk:k<=100):Qy (iA (k:Int) n) (λr=>r=strOfNums (Jd k n)):=by
 unfold iA;refine Qy.fn ?_;unfold g83;refine Ok.b (R:=λe=>e=strOfNums (Jd k n)) ?_ λe he=>Ok.d he;refine Ok.s k (by omega) (λi y=>∃m l,y=(m,strOfNums l,(i:Int))/\0<=m/\m < 9223372036854775808/\l.length=i/\Jd k n=Jd (k - i) m++l) ⟨n,[],rfl,h0,h,rfl,by simp⟩ (λi y hy hi=>?_) λy hy=>?_
 ·obtain⟨m,l,rfl,h1,h2,hl,hb⟩:=hy;have em:Int.tmod m 256=m % 256:=(by grind);have ed:Int.tdiv m 256=m / 256:=(by grind);refine Ok.t (by simp;omega) (Ok.k ?_ (Ok.d ⟨m / 256,m % 256 :: l,?_,by omega,by omega,by simp[hl],?_⟩))
  ·simp only[strOfNums_size,zM];grind
  ·show (Q0 (Int.tdiv m 256),strOfNums [Qk (Int.tmod m 256)]++strOfNums l,Q0 ((i:Int)+1))=_;rw[ed,em,Z2 (by omega) (by omega),Y0 hi (by omega),C2,<-T3,show m % 256 % 256=m % 256 by omega];rfl
  ·rw[hb,show k - i=(k - (i+1))+1 by omega,Jd];simp
 ·obtain⟨m,l,rfl,h1,h2,hl,hb⟩:=hy;refine Ok.f (by simp) (Ok.d ?_);rw[hb,Nat.sub_self];rfl
theorem SH(s:ze)(n:Nat)(hs:s.size=n % 64)(hn:n<=1000000):Qy (vC s (n:Int)) (λr=>r=s++pad n):=by
 unfold vC;refine Qy.fn ?_;unfold Qmm;have z1:(bs [128]).size=1:=rfl;have z0:(bs [0]).size=1:=rfl;have zr:∀j:Nat,((s++bs [128])++strOfNums (List.replicate j 0)).size=n % 64+1+j:=(by grind [ByteArray.size_append,strOfNums_size,List.length_replicate]);refine Ok.k (by grind) (Ok.b (R:=λe=>e=(s++bs [128])++strOfNums (List.replicate ((119 - n % 64) % 64) 0)) ?_ λe he=>?_)
 ·refine Ok.s ((119 - n % 64) % 64) (by omega) (λk y=>y=(s++bs [128])++strOfNums (List.replicate k 0)) (ByteArray.append_empty).symm (λk y hy hk=>?_) λy hy=>?_
  ·grind [Int.tmod_eq_emod_of_nonneg,Ok.t,Ok.k,Ok.d,ByteArray.append_assoc,T3,uA,Int.tmod,bs,strOfNums,List.replicate]
  ·subst hy;have em:Int.tmod (((s++bs [128])++strOfNums (List.replicate ((119 - n % 64) % 64) 0)).size:Int) 64=56:=by grind
   exact Ok.f (by rw[em];rfl) (Ok.d rfl)
 ·subst he;have e8:Q0 ((8:Int) * (n:Int))=8 * (n:Int):=Z2 (by omega) (by omega);refine Ok.b (R:=λe=>e=((s++bs [128])++strOfNums (List.replicate ((119 - n % 64) % 64) 0),strOfNums (Jd 8 (8 * (n:Int))))) ?_ λe he=>?_
  ·refine Ok.s 8 (by decide) (λi y=>∃m l,y=(m,strOfNums l,(i:Int))/\0<=m/\m < 9223372036854775808/\l.length=i/\Jd 8 (8 * (n:Int))=Jd (8 - i) m++l) ⟨8 * (n:Int),[],by rw[e8];rfl,by omega,by omega,rfl,by simp⟩ (λi y hy hi=>?_) λy hy=>?_
   ·obtain⟨m,l,rfl,h1,h2,hl,hb⟩:=hy;have em:Int.tmod m 256=m % 256:=(by grind);have ed:Int.tdiv m 256=m / 256:=(by grind);refine Ok.t (by simp;omega) (Ok.k ?_ (Ok.d ⟨m / 256,m % 256 :: l,?_,by omega,by omega,by simp[hl],?_⟩))
    ·simp only[strOfNums_size,zM];grind
    ·show (Q0 (Int.tdiv m 256),strOfNums [Qk (Int.tmod m 256)]++strOfNums l,Q0 ((i:Int)+1))=_;rw[ed,em,Z2 (by omega) (by omega),Y0 hi (by omega),C2,<-T3,show m % 256 % 256=m % 256 by omega];rfl
    ·rw[hb,show 8 - i=(8 - (i+1))+1 by omega,Jd];simp
   ·obtain⟨m,l,rfl,h1,h2,hl,hb⟩:=hy;refine Ok.f (by simp) (Ok.d ?_);rw[hb,Nat.sub_self];rfl
  grind [Ok.k,strOfNums_size,Hm,Ok.d,ByteArray.append_assoc,pad]
theorem Qy7(v:V8){k:Nat}{x:Int}(h:(l8 v)[k]?=some x):0<=x/\x < 4294967296:=by
 have:=wd h;simp only[l8,zY,wj,or_false] at this;rcases this with rfl|rfl|rfl|rfl|rfl|rfl|rfl|rfl<;>exact Yh _
theorem Vm(v:V8):Qy (vV (l8 v)) (λr=>r=Vh v):=by
 unfold vV;refine Qy.fn ?_;unfold Qmd Vh;have hl:(l8 v).length=8:=rfl;have hx:=@Qy7 v;generalize l8 v=L at hl hx ⊢;refine Ok.b (R:=λe=>e=strOfNums (L.flatMap (Jd 4))) ?_ λe he=>Ok.d he;refine Ok.s 8 (by decide) (λk y=>y=(strOfNums ((L.take k).flatMap (Jd 4)),(k:Int))) rfl (λk y hy hk=>?_) λy hy=>?_
 ·subst hy;obtain⟨x,h1,h2⟩:=G2 (l:=L) (k:=k) (by omega);have hr:=hx h2;have zk:((L.take k).flatMap (Jd 4)).length=4 * k:=by
   rw[List.length_flatMap];simp only[Hm,List.map_const',List.sum_replicate_nat,qh,hl];omega
  refine Ok.t (by grind [Jc]) (Ok.r (by simp) h1 (Ok.c (show Qy _ _ from Qz2 4 x hr.1 (by omega) (by decide)) λr hr=>?_));grind [Ok.k,strOfNums_size,Hm,Ok.d,Y0,T3,List.take_add_one,Q0]
 grind [Ok.f,Jc,Ok.d,List.take_of_length_le,strOfNums]
theorem Qz0(t:P0)(ht:cJ t)(s:ze)(hs:s.size<=500000):Qy (s82 t s) (λr=>r=OW s vS):=by
 unfold s82;refine Qy.fn ?_;unfold g82;have e1:Int.tdiv (s.size:Int) 64=((s.size / 64:Nat):Int):=by grind
 have e2:Q0 ((Q0 (Int.tdiv (s.size:Int) 64)) * 64)=((64 * (s.size / 64):Nat):Int):=by
  grind [Z2]
 simp only[e2,zW];have hz:(s.extract (64 * (s.size / 64)) s.size).size=s.size % 64:=by rw[ByteArray.size_extract];omega
 have h0:(s.extract 0 (64 * (s.size / 64))).size=64 * (s.size / 64):=by rw[ByteArray.size_extract];omega
 have hm:s.extract 0 (64 * (s.size / 64))++(s.extract (64 * (s.size / 64)) s.size++pad s.size)=s++pad s.size:=by
  rw[<-ByteArray.append_assoc,ByteArray.extract_append_extract,Nat.min_eq_left (by omega),Nat.max_eq_right (by omega),ByteArray.extract_zero_size]
 have hp:=NI s.size;have hT:(s++pad s.size).size % 64=0:=by grind
 have hT2:(s++pad s.size).size<=1000000:=by grind
 refine Ok.k (by simp;omega) (Ok.k (by simp;omega) (Ok.c (SH _ s.size hz (by omega)) λr hr=>?_));subst hr;refine Ok.k (by grind) ?_;rw[hm,ht.1];exact Ok.c (gW t ht _ hT2 hT vS) λr hr=>by subst hr;exact Ok.c (Vm _) λr hr=>Ok.d hr
end Go.Proofs.YtjdieimefebnfaaGreatDoor
