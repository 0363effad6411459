/- Part Y15. -/
import Derived.Test.YtjdieimefebnfaaGreatDoorY14
set_option linter.unusedVariables false
set_option linter.unusedSimpArgs false
set_option maxRecDepth 100000
namespace Go.Proofs.YtjdieimefebnfaaGreatDoor
open Go Go.EV Crv
theorem WR(b:Bool)(x a:Q4)(hx:Hx x)(ha:Hx a):Qj (Sd b x a) (λr=>Hx r/\fN r=(if b then fN x * fN x % nP * fN a % nP else fN x * fN x % nP)):=by
 show Ok (Qyt b x a) _;grind [Ok.c,P6,Ok.e,Ok.d,Qyt]
theorem gQ(a n:Nat):a ^ n % nP * (a ^ n % nP) % nP=a ^ (2 * n) % nP:=by rw[<-Nat.mul_mod,<-Nat.pow_add];congr 2;omega
theorem NA(a n:Nat):a ^ n % nP * (a ^ n % nP) % nP * a % nP=a ^ (2 * n+1) % nP:=by rw[gQ,Nat.pow_succ,Nat.mod_mul_mod]
theorem FJ:Hx ⟨1,0,0,0,0⟩:=by unfold Hx;decide
theorem kD:fN ⟨1,0,0,0,0⟩=1:=by decide +kernel
theorem Qzl(a:Q4)(ha:Hx a):Qj (vM a) (λr=>Hx r/\fN r=Gk (fN a)):=by
 unfold vM;refine Qj.fn ?_;unfold Qmu;refine Ok.b (R:=λe=>Hx e/\∃n,n=2 ^ 250 - 1/\fN e=fN a ^ n % nP) (Ok.s 250 (by decide) (λk y=>Hx y.1/\(∃n,n=2 ^ k - 1/\fN y.1=fN a ^ n % nP)/\y.2=(k:Int)) ⟨FJ,⟨0,rfl,by rw[kD,Nat.pow_zero];rfl⟩,rfl⟩ (λk y hy hk=>?_) λy hy=>?_) λe he=>?_
 ·obtain⟨x,i⟩:=y;obtain⟨h1,⟨n,hn,h2⟩,rfl⟩:Hx x/\(∃n,n=2 ^ k - 1/\fN x=fN a ^ n % nP)/\i=(k:Int):=hy;refine Ok.t (by grind) (Ok.c (WR true x a h1 ha) λr hr=>Ok.d ⟨hr.1,⟨2 * n+1,?_,?_⟩,Z8 hk (by decide)⟩)
  ·grind
  ·rw[hr.2,if_pos rfl,h2,NA]
 ·obtain⟨x,i⟩:=y;obtain⟨h1,h2,rfl⟩:Hx x/\(∃n,n=2 ^ 250 - 1/\fN x=fN a ^ n % nP)/\i=((250:Nat):Int):=hy;exact Ok.f rfl (Ok.d ⟨h1,h2⟩)
 ·obtain⟨h1,n,hn,h2⟩:=he;refine Ok.tt (Ok.c (WR false e a h1 ha) λr1 q1=>Ok.tt (Ok.c (WR true r1 a q1.1 ha) λr2 q2=>Ok.tt (Ok.c (WR false r2 a q2.1 ha) λr3 q3=>Ok.tt (Ok.c (WR true r3 a q3.1 ha) λr4 q4=>Ok.tt (Ok.c (WR true r4 a q4.1 ha) λr5 q5=>Ok.ff (Ok.d ⟨q5.1,?_⟩))))));have e1:fN r1=fN a ^ (2 * n) % nP:=by rw[q1.2,if_neg (by decide),h2,gQ]
  have e2:fN r2=fN a ^ (2 * (2 * n)+1) % nP:=by rw[q2.2,if_pos rfl,e1,NA]
  have e3:fN r3=fN a ^ (2 * (2 * (2 * n)+1)) % nP:=by rw[q3.2,if_neg (by decide),e2,gQ]
  have e4:fN r4=fN a ^ (2 * (2 * (2 * (2 * n)+1))+1) % nP:=by rw[q4.2,if_pos rfl,e3,NA]
  have e5:fN r5=fN a ^ (2 * (2 * (2 * (2 * (2 * n)+1))+1)+1) % nP:=by rw[q5.2,if_pos rfl,e4,NA]
  have en:2 * (2 * (2 * (2 * (2 * n)+1))+1)+1=nP - 2:=by rw[hn];decide +kernel
  rw[e5,en];unfold Gk;rw[Lj _ _ _ _ (by decide +kernel),Nat.one_mul]
def M2(w N k j:Nat):Nat:=N % 2 ^ k / 2 ^ (w * j) % 2 ^ w
theorem Lx(w N j:Nat):M2 w N 0 j=0:=by unfold M2;rw[Nat.pow_zero,Nat.mod_one,Nat.zero_div,Nat.zero_mod]
theorem Gz(w N k j:Nat):M2 w N k j < 2 ^ w:=Nat.mod_lt _ (Nat.two_pow_pos _)
theorem mod_succ(N k:Nat):N % 2 ^ (k+1)=N % 2 ^ k+2 ^ k * (N / 2 ^ k % 2):=by rw[Nat.pow_succ,Nat.mod_mul]
theorem Pq(N k:Nat):N / 2 ^ k % 2 < 2:=Nat.mod_lt _ (by decide)
theorem Bh{w N k j r:Nat}(hk:k=w * j+r)(hr:r < w):N % 2 ^ k / 2 ^ (w * j) < 2 ^ r:=by
 simp_all [Nat.div_lt_iff_lt_mul,Nat.two_pow_pos,Nat.pow_add,Nat.add_comm,Nat.mod_lt]
theorem CF{w N k j r:Nat}(hk:k=w * j+r)(hr:r < w):M2 w N k j < 2 ^ r/\M2 w N (k+1) j=M2 w N k j+N / 2 ^ k % 2 * 2 ^ r:=by
 have h1:=Bh (N:=N) hk hr
 have h2:(2:Nat) ^ r * 2<=2 ^ w:=by rw[<-Nat.pow_succ];exact Nat.pow_le_pow_right (by decide) hr
 have hb:=Pq N k
 have e0:M2 w N k j=N % 2 ^ k / 2 ^ (w * j):=Nat.mod_eq_of_lt (by omega);refine⟨by grind,?_⟩
 have key:∀b,2 ^ k * b=2 ^ (w * j) * (b * 2 ^ r):=(by grind)
 have e1:N % 2 ^ (k+1) / 2 ^ (w * j)=N % 2 ^ k / 2 ^ (w * j)+N / 2 ^ k % 2 * 2 ^ r:=by
  rw[mod_succ,key,Nat.add_mul_div_left _ _ (Nat.two_pow_pos _)]
 have l2:N % 2 ^ k / 2 ^ (w * j)+N / 2 ^ k % 2 * 2 ^ r < 2 ^ w:=by
  rcases wU (N / 2 ^ k % 2) 1 with h|h
  ·grind
  grind
 grind [Nat.mod_eq_of_lt,M2]
theorem VU{w N k j q r:Nat}(hk:k=w * q+r)(hr:r < w)(hj:j≠q):M2 w N (k+1) j=M2 w N k j:=by
 unfold M2;rw[mod_succ];rcases wU j q with h|h
 ·have hw:w * j+w<=k:=by
   have:=Nat.mul_le_mul_left w (show j+1<=q from h);grind
  have e:2 ^ k * (N / 2 ^ k % 2)=2 ^ (w * j) * (2 ^ w * (2 ^ (k - (w * j+w)) * (N / 2 ^ k % 2))):=by
   rw[<-Nat.mul_assoc,<-Nat.mul_assoc,<-Nat.pow_add,<-Nat.pow_add,show w * j+w+(k - (w * j+w))=k by omega]
  rw[e,Nat.add_mul_div_left _ _ (Nat.two_pow_pos _),Nat.add_mul_mod_self_left]
 ·have hw:k+1<=w * j:=by
   have:=Nat.mul_le_mul_left w (show q+1<=j by omega);grind
  have l1:N % 2 ^ k < 2 ^ k:=Nat.mod_lt _ (Nat.two_pow_pos _)
  have l2:(2:Nat) ^ k * 2<=2 ^ (w * j):=by rw[<-Nat.pow_succ];simp_all [Nat.pow_le_pow_right]
  have hb:=Pq N k
  have l3:N % 2 ^ k+2 ^ k * (N / 2 ^ k % 2) < 2 ^ (w * j):=by
   rcases wU (N / 2 ^ k % 2) 1 with h|h
   ·grind
   grind
  rw[Nat.div_eq_of_lt l3,Nat.div_eq_of_lt (by omega)]
theorem aU{w N q r:Nat}(hr:r < w):N / 2 ^ (w * q) % 2 ^ w / 2 ^ r % 2=N / 2 ^ (w * q+r) % 2:=by
 have e:(2:Nat) ^ w=2 ^ r * 2 ^ (w - r):=by rw[<-Nat.pow_add,show r+(w - r)=w by omega]
 rw[e,Nat.mod_mul_right_div_self,Nat.div_div_eq_div_mul,<-Nat.pow_add];have e2:(2:Nat) ^ (w - r)=2 * 2 ^ (w - r - 1):=by rw[wQ,<-Nat.pow_succ];congr 1;omega
 simp_all
def Oq(f:Nat->Nat):Nat->Nat
 | 0=>0
 | n+1=>Oq f n+f n * 256 ^ n
theorem Bk{f:Nat->Nat}(hf:∀i,f i < 256):∀n,Oq f n < 256 ^ n
 | 0=>Nat.one_pos
 | n+1=>by
  have h:=Bk hf n
  have:=wM (256 ^ n) (show f n<=255 by have:=hf n;omega);grind [Nat.pow_succ,Oq]
theorem eW{f:Nat->Nat}(hf:∀i,f i < 256):∀{n i:Nat},i < n->Oq f n / 256 ^ i % 256=f i
 | n+1,i,h=>by
  show (Oq f n+f n * 256 ^ n) / 256 ^ i % 256=f i;rcases wU i n with h1|h1
  ·have e:f n * 256 ^ n=256 ^ i * (256 * (f n * 256 ^ (n - i - 1))):=by
    have:(256:Nat) ^ n=256 ^ i * (256 * 256 ^ (n - i - 1)):=by rw[<-Nat.mul_assoc,<-Nat.pow_succ,<-Nat.pow_add];congr 1;omega
    grind
   rw[e,Nat.add_mul_div_left _ _ (Nat.pow_pos (by decide)),Nat.add_mul_mod_self_left];exact eW hf h1
  ·obtain rfl:i=n:=by omega
   rw[wQ,Nat.add_mul_div_left _ _ (Nat.pow_pos (by decide)),Nat.div_eq_of_lt (Bk hf _),zW,Nat.mod_eq_of_lt (hf _)]
def on(s:ze)(i:Nat):Nat:=(s.data.getD i 0).toNat
theorem WJ(s:ze)(i:Nat):QZ s (i:Int)=((on s i:Nat):Int):=by unfold QZ on;grind
theorem Ue(s:ze)(i:Nat):on s i < 256:=UInt8.toNat_lt _
def Yf(s:ze):Nat:=Oq (on s) 32
theorem GJ:∀c:Fin 256,∀k:Fin 8,U0 .u8 (Z3 .u8 ((c.val:Nat):Int) ((k.val:Nat):Int)) 1=((c.val / 2 ^ k.val % 2:Nat):Int):=by decide +kernel
theorem Qz2:∀k:Fin 8,∀x:Fin 256,∀b:Fin 2,x.val < 2 ^ k.val->Zl .u8 ((x.val:Nat):Int) (M6 .u8 ((b.val:Nat):Int) ((k.val:Nat):Int))=((x.val+b.val * 2 ^ k.val:Nat):Int):=by decide +kernel
theorem td(k n:Nat):Int.tdiv (k:Int) (n:Int)=((k / n:Nat):Int):=(Int.ofNat_tdiv k n).symm
theorem tm(k n:Nat):Int.tmod (k:Int) (n:Int)=((k % n:Nat):Int):=(Int.ofNat_tmod k n).symm
theorem td8(k:Nat)(h:k < 1000):Q0 (Int.tdiv (k:Int) 8)=((k / 8:Nat):Int):=by rw[show (8:Int)=((8:Nat):Int) from rfl,td,Z2 (by omega) (by omega)]
theorem tm8(k:Nat):Int.tmod (k:Int) 8=((k % 8:Nat):Int):=tm k 8
theorem Qhy(k:Nat)(h:k < 1000):Q0 (Int.tdiv (k:Int) 51)=((k / 51:Nat):Int):=by rw[show (51:Int)=((51:Nat):Int) from rfl,td,Z2 (by omega) (by omega)]
theorem Qhq(k:Nat):Int.tmod (k:Int) 51=((k % 51:Nat):Int):=tm k 51
theorem BA(f:Nat->Nat)(hf:∀i,f i < 256){n k:Nat}(h:k / 8 < n):f (k / 8) / 2 ^ (k % 8) % 2=Oq f n / 2 ^ k % 2:=by
 rw[<-eW hf h,show (256:Nat) ^ (k / 8)=2 ^ (8 * (k / 8)) by rw[Nat.pow_mul],show (256:Nat)=2 ^ 8 from rfl,aU (Nat.mod_lt _ (by decide)),Nat.div_add_mod]
theorem Qz1{x r:Nat}(hx:x < 2 ^ r)(hr:r < 51):Zl .u64 (x:Int) (M6 .u64 1 (r:Int))=((x+1 * 2 ^ r:Nat):Int):=by
 have h2:(2:Nat) ^ r * 2<=2 ^ 51:=by rw[<-Nat.pow_succ];exact Nat.pow_le_pow_right (by decide) hr
 rw[show M6 .u64 1 (r:Int)=_ from sM 1 r (by omega)];have e:(1:Int) * 2 ^ r % 18446744073709551616=((2 ^ r:Nat):Int):=by
  grind
 rw[e,Qwu x (2 ^ r) (by omega) (by omega),Nat.or_comm];have k:=Nat.two_pow_add_eq_or_of_lt hx 1;grind
def Iw(N k:Nat):Q4:=⟨(M2 51 N k 0:Nat),(M2 51 N k 1:Nat),(M2 51 N k 2:Nat),(M2 51 N k 3:Nat),(M2 51 N k 4:Nat)⟩
theorem Bw(w N:Nat){k q:Nat}(hw:0 < w)(hq:k / w=q)(j:Nat):M2 w N (k+1) j=M2 w N k j+if j=q then N / 2 ^ k % 2 * 2 ^ (k % w) else 0:=by
 have hk:k=w * q+k % w:=by rw[<-hq,Nat.div_add_mod]
 by_cases h:j=q
 ·subst h;rw[if_pos rfl];exact(CF hk (Nat.mod_lt _ hw)).2
 ·rw[if_neg h];exact VU hk (Nat.mod_lt _ hw) h
theorem eZ(w N:Nat){k q:Nat}(hw:0 < w)(hq:k / w=q):M2 w N k q < 2 ^ (k % w):=(CF (by rw[<-hq,Nat.div_add_mod]) (Nat.mod_lt _ hw)).1
theorem CO(N:Nat):Hx (Iw N 255)/\fv (Iw N 255)=((N % 2 ^ 255:Nat):Int):=by
 grind [Nat.mod_lt,Iw,M2,Hx,fv,v5,Nat.reduceMul,Nat.reducePow]
theorem Qwg{N k:Nat}(h:N / 2 ^ k % 2=0):Iw N (k+1)=Iw N k:=by
 unfold Iw;simp only[Bw 51 N (k:=k) (q:=k / 51) (by decide) rfl,h];simp
theorem Qwf{N k:Nat}(h:N / 2 ^ k % 2=1)(q:Nat)(hq:k / 51=q) :
  (⟨if q=0 then Zl .u64 ((M2 51 N k 0:Nat):Int) (M6 .u64 1 ((k % 51:Nat):Int)) else (M2 51 N k 0:Nat),if q=1 then Zl .u64 ((M2 51 N k 1:Nat):Int) (M6 .u64 1 ((k % 51:Nat):Int)) else (M2 51 N k 1:Nat),
   if q=2 then Zl .u64 ((M2 51 N k 2:Nat):Int) (M6 .u64 1 ((k % 51:Nat):Int)) else (M2 51 N k 2:Nat),if q=3 then Zl .u64 ((M2 51 N k 3:Nat):Int) (M6 .u64 1 ((k % 51:Nat):Int)) else (M2 51 N k 3:Nat),
   if q=4 then Zl .u64 ((M2 51 N k 4:Nat):Int) (M6 .u64 1 ((k % 51:Nat):Int)) else (M2 51 N k 4:Nat)⟩:Q4)=Iw N (k+1):=by
 have sb:=eZ 51 N (k:=k) (q:=q) (by decide) hq
 have hr:k % 51 < 51:=Nat.mod_lt _ (by decide)
 have one:∀j,(if q=j then Zl .u64 ((M2 51 N k j:Nat):Int) (M6 .u64 1 ((k % 51:Nat):Int)) else ((M2 51 N k j:Nat):Int))=((M2 51 N (k+1) j:Nat):Int):=λj=>by
  rw[Bw 51 N (k:=k) (q:=q) (by decide) hq j,h];by_cases e:q=j
  ·subst e;rw[if_pos rfl,if_pos rfl,Qz1 sb hr]
  grind
 rw[one 0,one 1,one 2,one 3,one 4];rfl
theorem GY{x:Nat}(h:(((x:Nat):Int)==1)=true):x=1:=(by grind)
theorem IS{x:Nat}(hx:x < 2)(h:(((x:Nat):Int)==1)=false):x=0:=by
 grind
theorem lB(s:ze)(hs:s.size=32)(N:Nat)(hN:∀k,k < 255->on s (k / 8) / 2 ^ (k % 8) % 2=N / 2 ^ k % 2):Qj (lM s) (λr=>r=Iw N 255):=by
 unfold lM;refine Qj.fn ?_;unfold Qmk;refine Ok.b (R:=λe=>e=Iw N 255) (Ok.s 255 (by decide) (λk y=>y=(Iw N k,(k:Int))) ?_ (λk y hy hk=>?_) λy hy=>?_) λe he=>Ok.d he
 ·grind [Lx,Iw]
 ·subst hy;refine Ok.t (by grind) ?_;have e1:U0 .u8 (Z3 .u8 (QZ s (Q0 (Int.tdiv (k:Int) 8))) (Int.tmod (k:Int) 8)) 1=((N / 2 ^ k % 2:Nat):Int):=by
   rw[td8 k (by omega),tm8,WJ,GJ ⟨on s (k / 8),Ue _ _⟩ ⟨k % 8,Nat.mod_lt _ (by decide)⟩,<-hN k hk]
  have e2:=td8 k (by omega)
  have e3:=Qhy k (by omega)
  have hb:=Pq N k;refine Ok.k (by grind) (Ok.k (by grind) (Ok.e (λhc=>?_) λhc=>?_))
  ·have hc:(U0 .u8 (Z3 .u8 (QZ s (Q0 (Int.tdiv (k:Int) 8))) (Int.tmod (k:Int) 8)) 1==1)=true:=hc;rw[e1] at hc
   have h1:=GY hc
   have hm:(decide ((0:Int)<=Int.tmod (k:Int) 51))=true:=by grind
   have hq5:k / 51=0\/k / 51=1\/k / 51=2\/k / 51=3\/k / 51=4:=by omega
   have ew:=Z8 hk (n:=255) (by decide)
   have et:=Qhq k;rcases hq5 with h|h|h|h|h
   all_goals
    have hm1:=Qwf h1 _ h;rw[h] at e3;refine Ok.HU (by grind) ?_;grind [Ok.k,Ok.d,Ok,Q0,Int.tdiv,Iw]
  ·have hc:(U0 .u8 (Z3 .u8 (QZ s (Q0 (Int.tdiv (k:Int) 8))) (Int.tmod (k:Int) 8)) 1==1)=false:=hc;rw[e1] at hc;refine Ok.d ?_
   show (Iw N k,Q0 ((k:Int)+1))=(Iw N (k+1),((k+1:Nat):Int));rw[Z8 hk (by decide),Qwg (IS hb hc)]
 ·subst hy;exact Ok.f rfl (Ok.d rfl)
theorem nZ(s:ze)(hs:s.size=32):Qj (lM s) (λr=>r=Iw (Yf s) 255):=
 lB s hs (Yf s) λk hk=>BA (on s) (Ue s) (n:=32) (k:=k) (by omega)
def OZ(n:Nat):ze:=strOfNums (I1 λj=>((M2 8 n 255 j:Nat):Int))
theorem lN(f:Nat->Int)(q:Nat)(v:Int):((List.range 32).map f).set q v=(List.range 32).map λj=>if j=q then v else f j:=by
 refine List.ext_getElem? λi=>?_;grind
theorem tight(y:Q4)(hy:Hx y):∀x,x=bA y.a0 y.a1 y.a2 y.a3 y.a4->∀z,z=bA x.a0 x.a1 x.a2 x.a3 x.a4->(wide x.a0/\wide x.a1/\wide x.a2/\wide x.a3/\wide x.a4)/\(0<=z.a0/\z.a0 < 2251799813685248)/\(0<=z.a1/\z.a1 < 2251799813685248)/\(0<=z.a2/\z.a2 < 2251799813685248)/\(0<=z.a3/\z.a3 < 2251799813685248)/\(0<=z.a4/\z.a4 < 2251799813685248):=by
 obtain⟨a0,a1,a2,a3,a4⟩:=y;obtain⟨h0,h1,h2,h3,h4⟩:=hy;rintro _ rfl _ rfl;unfold bA;simp only at *
 omega
theorem Ri{W:Nat}{y0 y1 y2 y3 y4:Int}(h0:0<=y0/\y0 < 2251799813685248)(h1:0<=y1/\y1 < 2251799813685248)(h2:0<=y2/\y2 < 2251799813685248)(h3:0<=y3/\y3 < 2251799813685248)(h4:0<=y4/\y4 < 2251799813685248)(hW:(W:Int)=v5 y0 y1 y2 y3 y4):Iw W 255=⟨y0,y1,y2,y3,y4⟩:=by
 grind [Nat.mod_eq_of_lt,v5,Iw,M2,Nat.reduceMul,Nat.reducePow]
theorem lR(z:Q4)(h0:0<=z.a0/\z.a0 < 2251799813685248)(h1:0<=z.a1/\z.a1 < 2251799813685248)(h2:0<=z.a2/\z.a2 < 2251799813685248)(h3:0<=z.a3/\z.a3 < 2251799813685248)(h4:0<=z.a4/\z.a4 < 2251799813685248) :
  (if 0 < (z.a4+(z.a3+(z.a2+(z.a1+(z.a0+19) / 2251799813685248) / 2251799813685248) / 2251799813685248) / 2251799813685248) / 2251799813685248 then
   (⟨(z.a0+19) % 2251799813685248,(z.a1+(z.a0+19) / 2251799813685248) % 2251799813685248,(z.a2+(z.a1+(z.a0+19) / 2251799813685248) / 2251799813685248) % 2251799813685248,(z.a3+(z.a2+(z.a1+(z.a0+19) / 2251799813685248) / 2251799813685248) / 2251799813685248) % 2251799813685248,(z.a4+(z.a3+(z.a2+(z.a1+(z.a0+19) / 2251799813685248) / 2251799813685248) / 2251799813685248) / 2251799813685248) % 2251799813685248⟩:Q4)
   else z)=Iw (fN z) 255:=by
 obtain⟨a0,a1,a2,a3,a4⟩:=z;have hm:((fN ⟨a0,a1,a2,a3,a4⟩:Nat):Int)=v5 a0 a1 a2 a3 a4 % 57896044618658097711785492504343953926634992332820282019728792003956564819949:=Jr (v5 a0 a1 a2 a3 a4);generalize fN ⟨a0,a1,a2,a3,a4⟩=W at *
 dsimp only at h0 h1 h2 h3 h4 ⊢
 have key:∀a:Int,a=a / 2251799813685248 * 2251799813685248+a % 2251799813685248/\0<=a % 2251799813685248/\a % 2251799813685248 < 2251799813685248:=λa=>by omega
 have k0:=key (a0+19);generalize (a0+19) / 2251799813685248=u0 at *
 generalize (a0+19) % 2251799813685248=y0 at *
 have k1:=key (a1+u0);generalize (a1+u0) / 2251799813685248=u1 at *
 generalize (a1+u0) % 2251799813685248=y1 at *
 have k2:=key (a2+u1);generalize (a2+u1) / 2251799813685248=u2 at *
 generalize (a2+u1) % 2251799813685248=y2 at *
 have k3:=key (a3+u2);generalize (a3+u2) / 2251799813685248=u3 at *
 generalize (a3+u2) % 2251799813685248=y3 at *
 have k4:=key (a4+u3);generalize (a4+u3) / 2251799813685248=u4 at *
 generalize (a4+u3) % 2251799813685248=y4 at *
 clear key;have e:v5 a0 a1 a2 a3 a4+19=v5 y0 y1 y2 y3 y4+57896044618658097711785492504343953926634992332820282019728792003956564819968 * u4:=by unfold v5;omega
 have hV:0<=v5 a0 a1 a2 a3 a4/\v5 a0 a1 a2 a3 a4 < 57896044618658097711785492504343953926634992332820282019728792003956564819968:=by unfold v5;omega
 have hY:0<=v5 y0 y1 y2 y3 y4/\v5 y0 y1 y2 y3 y4 < 57896044618658097711785492504343953926634992332820282019728792003956564819968:=by unfold v5;omega
 by_cases h:0 < u4
 ·rw[if_pos h];grind [Ri]
 ·rw[if_neg h];grind [Ri]
theorem Qzo(a:Q4)(ha:Hx a):Qj (vK a) (λr=>r=OZ (fN a)):=by
 have ha':=ha;obtain⟨h0,h1,h2,h3,h4⟩:=ha';unfold vK;refine Qj.fn ?_;unfold Qmj;obtain⟨wx,z0,z1,z2,z3,z4⟩:=tight a ha _ rfl _ rfl;refine Ok.c (AS a.a0 a.a1 a.a2 a.a3 a.a4 ⟨by omega,by omega⟩ ⟨by omega,by omega⟩ ⟨by omega,by omega⟩ ⟨by omega,by omega⟩ ⟨by omega,by omega⟩) λx hx=>?_
 have ex:fN x=fN a:=by rw[hx,xA];rfl
 rw[<-hx] at wx z0 z1 z2 z3 z4;refine Ok.c (AS x.a0 x.a1 x.a2 x.a3 x.a4 wx.1 wx.2.1 wx.2.2.1 wx.2.2.2.1 wx.q) λz hz=>?_;have ez:fN z=fN a:=by rw[<-ex,hz,xA];rfl
 rw[<-hz] at z0 z1 z2 z3 z4;clear hx hz wx h0 h1 h2 h3 h4;refine Ok.tt (Ok.tt (Ok.tt (Ok.tt (Ok.tt (Ok.ff ?_)))));have hrest:=lR z z0 z1 z2 z3 z4;rw[ez] at hrest;rw[Int.add_zero,U2 (n:=z.a0+19) (by omega) (by omega),U2 (n:=z.a0+19) (by omega) (by omega),DO (a:=z.a0+19) (by omega),Xu (a:=z.a0+19) (by omega) (by omega)];have c0:0<=(z.a0+19) / 2251799813685248/\(z.a0+19) / 2251799813685248<=1:=by omega
 rw[U2 (n:=z.a1+(z.a0+19) / 2251799813685248) (by omega) (by omega),DO (a:=z.a1+(z.a0+19) / 2251799813685248) (by omega),Xu (a:=z.a1+(z.a0+19) / 2251799813685248) (by omega) (by omega)];have c1:0<=(z.a1+(z.a0+19) / 2251799813685248) / 2251799813685248/\(z.a1+(z.a0+19) / 2251799813685248) / 2251799813685248<=1:=by omega
 rw[U2 (n:=z.a2+(z.a1+(z.a0+19) / 2251799813685248) / 2251799813685248) (by omega) (by omega),DO (a:=z.a2+(z.a1+(z.a0+19) / 2251799813685248) / 2251799813685248) (by omega),Xu (a:=z.a2+(z.a1+(z.a0+19) / 2251799813685248) / 2251799813685248) (by omega) (by omega)];have c2:0<=(z.a2+(z.a1+(z.a0+19) / 2251799813685248) / 2251799813685248) / 2251799813685248/\(z.a2+(z.a1+(z.a0+19) / 2251799813685248) / 2251799813685248) / 2251799813685248<=1:=by omega
 rw[U2 (n:=z.a3+(z.a2+(z.a1+(z.a0+19) / 2251799813685248) / 2251799813685248) / 2251799813685248) (by omega) (by omega),DO (a:=z.a3+(z.a2+(z.a1+(z.a0+19) / 2251799813685248) / 2251799813685248) / 2251799813685248) (by omega),Xu (a:=z.a3+(z.a2+(z.a1+(z.a0+19) / 2251799813685248) / 2251799813685248) / 2251799813685248) (by omega) (by omega)];have c3:0<=(z.a3+(z.a2+(z.a1+(z.a0+19) / 2251799813685248) / 2251799813685248) / 2251799813685248) / 2251799813685248/\(z.a3+(z.a2+(z.a1+(z.a0+19) / 2251799813685248) / 2251799813685248) / 2251799813685248) / 2251799813685248<=1:=by omega
 rw[U2 (n:=z.a4+(z.a3+(z.a2+(z.a1+(z.a0+19) / 2251799813685248) / 2251799813685248) / 2251799813685248) / 2251799813685248) (by omega) (by omega),DO (a:=z.a4+(z.a3+(z.a2+(z.a1+(z.a0+19) / 2251799813685248) / 2251799813685248) / 2251799813685248) / 2251799813685248) (by omega),Xu (a:=z.a4+(z.a3+(z.a2+(z.a1+(z.a0+19) / 2251799813685248) / 2251799813685248) / 2251799813685248) / 2251799813685248) (by omega) (by omega)];refine Ok.b (R:=λe=>e=Iw (fN a) 255) (Ok.e (λhc=>Ok.d ?_) λhc=>Ok.d ?_) λe he=>?_
 ·rw[<-hrest,if_pos (by simpa using hc)]
 ·rw[<-hrest,if_neg (by simpa using hc)]
 subst he;refine Ok.o rfl (Ok.b (R:=λe=>e=I1 λj=>((M2 8 (fN a) 255 j:Nat):Int)) ?_ λe he=>?_)
 rotate_left
 ·subst he;exact Ok.fact rfl (Ok.o rfl (Ok.d rfl))
 have hW:fN a < nP:=Qes a;generalize fN a=W at *
 clear hrest;refine Ok.s 255 (by decide) (λk y=>y=((List.range 32).map (λj=>((M2 8 W k j:Nat):Int)),(k:Int))) ?_ (λk y hy hk=>?_) λy hy=>?_
 ·simp only[Lx];rfl
 ·subst hy;refine Ok.t (we (show (k:Int) < 255 by omega)) ?_;have hq8:k / 8 < 32:=by omega
  have Wl:((List.range 32).map (λj=>((M2 8 W k j:Nat):Int)))[0+k / 8]?=some ((M2 8 W k (k / 8):Nat):Int):=by
   rw[zW,wc,List.getElem?_range hq8];rfl
  have hr:k % 51 < 51:=Nat.mod_lt _ (by decide)
  have hr8:k % 8 < 8:=Nat.mod_lt _ (by decide)
  have hsb:=eZ 8 W (k:=k) (q:=k / 8) (by decide) rfl
  have hs8:=Gz 8 W k (k / 8)
  have hx:=Bw 8 W (k:=k) (q:=k / 8) (by decide) rfl
  have hbit:∀q,k / 51=q->W % 2 ^ 255 / 2 ^ (51 * q) % 2 ^ 51 / 2 ^ (k % 51) % 2=W / 2 ^ k % 2:=λq hq=>by
   rw[aU hr,<-hq,Nat.div_add_mod,Nat.mod_eq_of_lt (Nat.lt_trans hW (by decide +kernel))]
  have hb2:=Pq W k
  have fin:∀x:Int,x=((W / 2 ^ k % 2:Nat):Int)->(((List.range 32).map (λj=>((M2 8 W k j:Nat):Int))).set (0+k / 8) (Zl .u8 ((M2 8 W k (k / 8):Nat):Int) (M6 .u8 (Qm x) ((k % 8:Nat):Int))),Q0 ((k:Int)+1))=((List.range 32).map (λj=>((M2 8 W (k+1) j:Nat):Int)),((k+1:Nat):Int)):=λx hx'=>by
   subst hx';have e1:Qm ((W / 2 ^ k % 2:Nat):Int)=((W / 2 ^ k % 2:Nat):Int):=by show IntKind.u8.wrap _=_;rw[IntKind.wrap_u8];omega
   rw[Z8 hk (by decide),e1,Qz2 ⟨k % 8,hr8⟩ ⟨M2 8 W k (k / 8),hs8⟩ ⟨W / 2 ^ k % 2,hb2⟩ hsb,zW,lN];congr 1;refine wE λj _=>?_;rw[hx j];by_cases e:j=k / 8
   ·subst e;rw[if_pos rfl,if_pos rfl]
   ·rw[if_neg e,if_neg e,Nat.add_zero]
  have hq5:k / 51=0\/k / 51=1\/k / 51=2\/k / 51=3\/k / 51=4:=by omega
  have hlm:∀q,q < 5->U0 .u64 (Z3 .u64 ((W % 2 ^ 255 / 2 ^ (51 * q) % 2 ^ 51:Nat):Int) ((k % 51:Nat):Int)) 1=((W % 2 ^ 255 / 2 ^ (51 * q) % 2 ^ 51 / 2 ^ (k % 51) % 2:Nat):Int):=λq _=>by
   have hl:W % 2 ^ 255 / 2 ^ (51 * q) % 2 ^ 51 < 2 ^ 51:=Nat.mod_lt _ (by decide);generalize W % 2 ^ 255 / 2 ^ (51 * q) % 2 ^ 51=x at *
   rw[show Z3 .u64 (x:Int) ((k % 51:Nat):Int)=_ from jS (by omega) _ (by omega)];have e:(x:Int) / 2 ^ (k % 51)=((x / 2 ^ (k % 51):Nat):Int):=by rw[Int.natCast_ediv,Int.natCast_pow];rfl
   have hle:=Nat.div_le_self x (2 ^ (k % 51));rw[e];generalize x / 2 ^ (k % 51)=d at *
   rw[Qof (by omega) (by omega)];omega
  simp only[td8 k (by omega),Qhy k (by omega),tm8,Qhq,zP];refine Ok.k (by simp;omega) (Ok.r rfl Wl ?_);rcases hq5 with h|h|h|h|h
  all_goals
   have hb:=hbit _ h;rw[h];refine Ok.HU (by decide) (Ok.k (by simp;omega) (Ok.k (by simp;omega) (Ok.k (by simp;omega) (Ok.r rfl Wl (Ok.re (Ok.d (fin _ ?_)))))));exact(hlm _ (by decide)).trans (congrArg Nat.cast hb)
 ·subst hy;exact Ok.f rfl (Ok.d rfl)
theorem PL{f g:Nat->Int}(h:∀i,i < 32->f i=g i):I1 f=I1 g:=by
 refine List.ext_getElem? λi=>?_;simp_all [YG,if_pos,if_neg]
theorem GH{s:ze}{k:Nat}(h:k < s.size):(Q3 s)[k]?=some (QZ s (k:Int)):=by
 simp_all [wc,zP,Array.getElem?_toList,wm,wD,Q3,QZ]
theorem mX{s:ze}(hs:s.size=32):Q3 s=I1 (Zd s):=by
 refine List.ext_getElem? λi=>?_;rw[YG];by_cases hi:i < 32
 ·rw[if_pos hi,GH (by omega)];rfl
 simp_all [if_neg,qi,U1]
theorem SX{f:Nat->Nat}(hf:∀i,f i < 256){i:Nat}(hi:i < 32):on (strOfNums (I1 λj=>((f j:Nat):Int))) i=f i:=by
 have hl:Q3 (strOfNums (I1 λj=>((f j:Nat):Int)))=I1 λj=>((f j:Nat):Int):=N1 λc hc=>by
  obtain⟨j,hj⟩:=List.getElem?_of_mem hc;rw[YG] at hj;grind
 have hsz:(strOfNums (I1 λj=>((f j:Nat):Int))).size=32:=E5 _
 have e:=GH (s:=strOfNums (I1 λj=>((f j:Nat):Int))) (k:=i) (by omega);rw[hl,YG,if_pos hi,WJ] at e;grind
theorem Dk{f g:Nat->Nat}:∀{n:Nat},(∀i,i < n->f i=g i)->Oq f n=Oq g n
 | 0,_=>rfl
 | n+1,h=>by
  show Oq f n+f n * 256 ^ n=Oq g n+g n * 256 ^ n;rw[Dk λi hi=>h i (by omega),h n (by omega)]
def qC(s:ze)(i:Nat):Nat:=if i=0 then on s 0 / 8 * 8 else if i=31 then on s 31 % 64+64 else on s i
def Dc(s:ze):ze:=strOfNums (I1 λi=>((qC s i:Nat):Int))
theorem xV(s:ze)(i:Nat):qC s i < 256:=by
 grind [Ue,qC]
theorem RI(s:ze):(Dc s).size=32:=E5 _
theorem Qyq(s:ze):Yf (Dc s)=Oq (qC s) 32:=Dk λ_ hi=>SX (xV s) hi
theorem xT:∀c:Fin 256,U0 .u8 ((c.val:Nat):Int) 248=((c.val / 8 * 8:Nat):Int)/\Zl .u8 (U0 .u8 ((c.val:Nat):Int) 127) 64=((c.val % 64+64:Nat):Int):=by decide +kernel
theorem Vv(s:ze)(hs:s.size=32):Qj (vE s) (λr=>r=Dc s):=by
 unfold vE;refine Qj.fn ?_;unfold Qmw;refine Ok.fact (mX hs) (Ok.o rfl (Ok.o (r:=()) (by show (bif _ then _ else _)=_;rw[U1,hs];rfl) (Ok.o rfl (Ok.o rfl (Ok.o rfl (Ok.o rfl ?_))))));refine Ok.r rfl (x:=Zd s 0) rfl (Ok.o rfl (Ok.r rfl (x:=Zd s 0) rfl (Ok.re (Ok.o rfl ?_))));refine Ok.r rfl (x:=Zd s 31) rfl (Ok.o rfl (Ok.r rfl (x:=Zd s 31) rfl (Ok.re (Ok.o rfl (Ok.o rfl (Ok.d ?_))))));unfold Dc;congr 1;refine PL λi hi=>?_;have e:∀i:Nat,Zd s i=((on s i:Nat):Int):=λi=>WJ s i;show (bif i==31 then _ else bif i==0 then _ else Zd s i)=_;unfold qC;rw[e 31,e 0,e i,(xT ⟨on s 0,Ue s 0⟩).1,(xT ⟨on s 31,Ue s 31⟩).2];by_cases h0:i=0
 ·subst h0;rfl
 grind
def OD(y:Y7):Prop:=Hx y.fR.Yt/\Hx y.fR.Qv/\Hx y.Qr.Yt/\Hx y.Qr.Qv/\Hx y.fu
theorem Qws:Hx ⟨121665,0,0,0,0⟩:=by unfold Hx;decide
theorem Qoq:fN ⟨121665,0,0,0,0⟩=121665:=by decide +kernel
theorem CZ(y:Y7)(hy:OD y):Qj (Qhs y) (λr=>(Hx r.1/\Hx r.2.1/\Hx r.2.2.1/\Hx r.2.2.2)/\
  (∀k:Nat->Nat->Nat×Nat,RM 121665 (fN y.fR.Yt) (fN y.fR.Qv) k=k (fN r.1) (fN r.2.1))/\
  ∀k:Nat->Nat->Nat×Nat,RW (fN y.fu) (fN y.fR.Yt) (fN y.fR.Qv) (fN y.Qr.Yt) (fN y.Qr.Qv) k=k (fN r.2.2.1) (fN r.2.2.2)):=by
 obtain⟨h1,h2,h3,h4,h5⟩:=hy;show Ok (Qj8 y) _;unfold Qj8;refine Ok.c (FE _ _ h1 h2) λp hp=>Ok.c (XD _ _ h1 h2) λm hm=>Ok.c (P6 _ _ hp.1 hp.1) λs hs=>Ok.c (P6 _ _ hm.1 hm.1) λt ht=>Ok.c (XD _ _ hs.1 ht.1) λe he=>?_;refine Ok.c (XD _ _ h3 h4) λf0 hf0=>Ok.c (P6 _ _ hf0.1 hp.1) λf hf=>Ok.c (FE _ _ h3 h4) λg0 hg0=>Ok.c (P6 _ _ hg0.1 hm.1) λg hg=>?_;refine Ok.c (P6 _ _ hs.1 ht.1) λx hx=>Ok.c (P6 _ _ he.1 Qws) λc hc=>Ok.c (FE _ _ hs.1 hc.1) λd hd=>Ok.c (P6 _ _ he.1 hd.1) λz hz=>?_;refine Ok.c (FE _ _ hf.1 hg.1) λa ha=>Ok.c (XD _ _ hf.1 hg.1) λb hb=>Ok.c (P6 _ _ ha.1 ha.1) λa2 ha2=>Ok.c (P6 _ _ hb.1 hb.1) λb2 hb2=>Ok.c (P6 _ _ h5 hb2.1) λw hw=>Ok.d ⟨(by grind),λk=>?_,λk=>?_⟩
 ·simp only[RM,force_eq];simp_all [Qoq]
 ·simp only[RW,force_eq];grind
theorem Qu3{s:ze}(hs:s.size=32){k:Nat}(hk:k < 255):(gDg s (k:Int)).run=some (Yf s / 2 ^ k % 2==1):=by
 have hb:=BA (on s) (Ue s) (n:=32) (k:=k) (by omega)
 have h:Ok (gDg s (k:Int)) (λr=>r=(Yf s / 2 ^ k % 2==1)):=by
  unfold gDg;rw[td8 k (by omega),tm8,WJ,GJ ⟨on s (k / 8),Ue _ _⟩ ⟨k % 8,Nat.mod_lt _ (by decide)⟩];grind [Ok.k,Ok.d,Nat.mod_two_eq_zero_or_one,on,Yf]
 obtain⟨r,h1,h2⟩:=h;rw[h1,h2]
theorem uF(u:Q4)(y:Y7)(s:ze)(b:Bool)(hy:OD y):∃r,(Rv u y s b).run=some r/\OD r/\r.fu=y.fu/\∀l:List Bool,
  YB 121665 (fN y.fu) (b :: l) (fN y.fR.Yt) (fN y.fR.Qv) (fN y.Qr.Yt) (fN y.Qr.Qv)=YB 121665 (fN y.fu) l (fN r.fR.Yt) (fN r.fR.Qv) (fN r.Qr.Yt) (fN r.Qr.Qv):=by
 obtain⟨h1,h2,h3,h4,h5⟩:=hy;have h:Ok (Rv u y s b) (λr=>OD r/\r.fu=y.fu/\∀l:List Bool,
   YB 121665 (fN y.fu) (b :: l) (fN y.fR.Yt) (fN y.fR.Qv) (fN y.Qr.Yt) (fN y.Qr.Qv)=YB 121665 (fN y.fu) l (fN r.fR.Yt) (fN r.fR.Qv) (fN r.Qr.Yt) (fN r.Qr.Qv)):=by
  unfold Rv;cases b with
  | true=>
   refine Ok.b (R:=λe=>e=(y.Qr.Yt,y.Qr.Qv,y.fR.Yt,y.fR.Qv)) (Ok.t rfl (Ok.d rfl)) λe he=>?_;subst he;refine Ok.c (CZ ⟨⟨y.Qr.Yt,y.Qr.Qv⟩,⟨y.fR.Yt,y.fR.Qv⟩,y.fu⟩ ⟨h3,h4,h1,h2,h5⟩) λr hr=>Ok.t rfl (Ok.d ⟨⟨hr.1.2.2.1,hr.1.2.2.2,hr.1.1,hr.1.2.1,h5⟩,rfl,λl=>?_⟩);show (bif true then _ else _)=_;grind
  | false=>
   refine Ok.b (R:=λe=>e=(y.fR.Yt,y.fR.Qv,y.Qr.Yt,y.Qr.Qv)) (Ok.f rfl (Ok.d rfl)) λe he=>?_;subst he;refine Ok.c (CZ ⟨⟨y.fR.Yt,y.fR.Qv⟩,⟨y.Qr.Yt,y.Qr.Qv⟩,y.fu⟩ ⟨h1,h2,h3,h4,h5⟩) λr hr=>Ok.f rfl (Ok.d ⟨⟨hr.1.1,hr.1.2.1,hr.1.2.2.1,hr.1.2.2.2,h5⟩,rfl,λl=>?_⟩);show (bif false then _ else _)=_;grind
 obtain⟨r,e,h⟩:=h;grind
theorem tU(u:Q4)(s:ze)(y:Y7):KP u s (y,((0:Nat):Int) - 1)=some (.inr y):=by
 unfold KP;grind
theorem LY(N:Nat):Crv.bits N 0=[]:=rfl
theorem LJ(N n:Nat):Crv.bits N (n+1)=(N / 2 ^ n % 2==1) :: Crv.bits N n:=rfl
theorem Rg(c u x y z w:Nat):YB c u [] x y z w=(x,y):=rfl
theorem rM{f:Y7×Int->Option ((Y7×Int)⊕Y7)}{N:Nat}(h0:∀y,f (y,((0:Nat):Int) - 1)=some (.inr y))
  (h1:∀n y,n < 255->OD y->∃r,f (y,((n+1:Nat):Int) - 1)=some (.inl (r,(n:Int) - 1))/\OD r/\r.fu=y.fu/\∀l:List Bool,
   YB 121665 (fN y.fu) ((N / 2 ^ n % 2==1) :: l) (fN y.fR.Yt) (fN y.fR.Qv) (fN y.Qr.Yt) (fN y.Qr.Qv)=YB 121665 (fN y.fu) l (fN r.fR.Yt) (fN r.fR.Qv) (fN r.Qr.Yt) (fN r.Qr.Qv)) (n:Nat) :
  ∀(m:Nat) (y:Y7),n<=255->n < m->OD y->∃r,I0 f m (y,(n:Int) - 1)=some r/\OD r/\
   YB 121665 (fN y.fu) (Crv.bits N n) (fN y.fR.Yt) (fN y.fR.Qv) (fN y.Qr.Yt) (fN y.Qr.Qv)=(fN r.fR.Yt,fN r.fR.Qv):=by
 induction n with
 | zero=>
  intro m y _ hm hy;obtain⟨m,rfl⟩:=Nat.exists_eq_succ_of_ne_zero (show m≠0 by omega);grind [LY,Rg,Nat.succ_eq_add_one,ZU]
 | succ n ih=>
  intro m y hn hm hy;obtain⟨m,rfl⟩:=Nat.exists_eq_succ_of_ne_zero (show m≠0 by omega);grind [Nat.succ_eq_add_one,ZU,LJ]
theorem oT(u:Q4){s:ze}{n:Nat}{y r:Y7}{b:Bool}(h0:(gDg s (n:Int)).run=some b)(h1:(Rv u y s b).run=some r)(hn:n < 255):KP u s (y,((n+1:Nat):Int) - 1)=some (.inl (r,(n:Int) - 1)):=by
 rw[show ((n+1:Nat):Int) - 1=(n:Int) by omega];unfold KP;simp only[h0,h1,show decide ((0:Int)<=(n:Int))=true by simp,cond_true];grind [Z2]
theorem rK(u:Q4){s:ze}(hs:s.size=32)(n:Nat):∀(m:Nat) (y:Y7),n<=255->n < m->OD y->∃r,I0 (KP u s) m (y,(n:Int) - 1)=some r/\OD r/\
  YB 121665 (fN y.fu) (Crv.bits (Yf s) n) (fN y.fR.Yt) (fN y.fR.Qv) (fN y.Qr.Yt) (fN y.Qr.Qv)=(fN r.fR.Yt,fN r.fR.Qv):=
 rM (tU u s) (λn y hn hy=>by
  obtain⟨r,h1,h2,h3,h4⟩:=uF u y s (Yf s / 2 ^ n % 2==1) hy;exact⟨r,oT u (Qu3 hs hn) h1 hn,h2,h3,h4⟩) n
def xN(n u:Nat):Nat:=(YB 121665 (u % nP) (Crv.bits n 255) 1 0 (u % nP) 1).1 * Gk (YB 121665 (u % nP) (Crv.bits n 255) 1 0 (u % nP) 1).2 % nP
def xS(k p:ze):ze:=OZ (xN (Yf (Dc k)) (Yf p % 2 ^ 255))
theorem ZA(k p:ze):(xS k p).size=32:=E5 _
section
attribute [local irreducible] xS
theorem yQ:Hx ⟨0,0,0,0,0⟩:=by unfold Hx;decide
theorem oK:fN ⟨0,0,0,0,0⟩=0:=by decide +kernel
theorem Qzv(N:Nat):fN (Iw N 255)=N % 2 ^ 255 % nP:=by
 unfold fN;rw[(CO N).2];refine(Rx rfl).trans ?_;rfl
theorem Lk(k p:ze)(hk:k.size=32)(hp:p.size=32):Qj (Fb k p) (λr=>r=xS k p):=by
 unfold Fb;refine Qj.fn ?_;unfold dE;refine Ok.c (nZ p hp) λu hu=>Ok.c (Vv k hk) λc hc=>Ok.c (R:=λ_=>True) ⟨(),rfl,trivial⟩ λ_ _=>Ok.g ?_;subst hu;subst hc;have hl:=(CO (Yf p)).1;obtain⟨r,h1,h2,h3⟩:=rK (Iw (Yf p) 255) (RI k) 255 Ys ⟨⟨⟨1,0,0,0,0⟩,⟨0,0,0,0,0⟩⟩,⟨Iw (Yf p) 255,⟨1,0,0,0,0⟩⟩,Iw (Yf p) 255⟩ (by decide) (by unfold Ys;decide) ⟨FJ,yQ,hl,FJ,hl⟩;refine Ok.Oy (r:=r) h1 ?_;refine Ok.c (Qzl _ h2.2.1) λd hd=>Ok.c (P6 _ _ h2.1 hd.1) λt ht=>Ok.c (Qzo _ ht.1) λo ho=>Ok.d ?_;simp_all [kD,oK,Qzv,xS,xN]
def V2:ze:=strOfNums (I1 (U7 (λ_=>0) 0 9))
theorem WT:V2.size=32:=E5 _
theorem Uo(k:ze):Qj (s67 k) (λr=>r=if k.size=32 then (xS k V2,0) else (zg,2)):=by
 unfold s67;refine Qj.fn ?_;unfold g67;refine Ok.e (λh=>Ok.d ?_) λh=>?_
 ·grind
 ·have h:(k.size:Int)=32:=by simpa using h
  have hk:k.size=32:=by omega
  refine Ok.o rfl (Ok.o rfl (Ok.o rfl (Ok.o rfl (Ok.c (Lk k V2 hk WT) λr hr=>Ok.d ?_))));grind
theorem Nx{f:Nat->Nat}(hf:∀i,f i < 256){i:Nat}(hi:i < 32):Zd (strOfNums (I1 λj=>((f j:Nat):Int))) i=((f i:Nat):Int):=by
 show QZ _ (i:Int)=_;rw[WJ,SX hf hi]
theorem La{n:Nat}(h:n < 2 ^ 255):(∀i,i < 32->Zd (OZ n) i=0)↔n=0:=by
 have hf:∀i,M2 8 n 255 i < 256:=λi=>Gz 8 n 255 i;constructor
 ·intro hz;have hl:∀i,i < 32->M2 8 n 255 i=0:=λi hi=>by
   simp_all [Nx,OZ]
  have key:∀j,j<=32->n % 256 ^ j=0:=λj=>by
   induction j with
   | zero=>grind
   | succ j ih=>
    intro hj;have h1:=ih (by omega);have h2:=hl j (by omega);simp_all [Nat.mod_eq_of_lt,Nat.pow_mul,Nat.pow_succ,Nat.mod_mul,M2]
  have:=key 32 (zN _);grind
 ·intro hz i hi;subst hz;unfold OZ;rw[Nx (by grind) hi];grind [Nat.zero_mod,Nat.zero_div,M2]
theorem Vt(k p:ze)(hk:k.size=32)(hp:p.size=32):Qj (tO k p) (λr=>r=if xN (Yf (Dc k)) (Yf p % 2 ^ 255)=0 then (zg,2) else (xS k p,0)):=by
 unfold tO;refine Qj.fn ?_;unfold Qke;refine Ok.n (R:=λc=>c=false) (Ok.f (by rw[hk];rfl) (Ok.d (by rw[hp];rfl))) λc hc=>?_;subst hc;refine Ok.f rfl (Ok.c (Lk k p hk hp) λr hr=>?_);subst hr;refine Ok.fact (mX (ZA k p)) (Ok.o rfl (Ok.o (r:=()) (by show (bif _ then _ else _)=_;rw[U1,ZA];rfl) (Ok.o rfl ?_)));have hlt:xN (Yf (Dc k)) (Yf p % 2 ^ 255) < 2 ^ 255:=Nat.lt_trans (Nat.mod_lt _ (by decide +kernel)) (by decide +kernel:nP < 2 ^ 255);have hz:=La hlt;have ez:∀i,Zd (xS k p) i=Zd (OZ (xN (Yf (Dc k)) (Yf p % 2 ^ 255))) i:=λi=>by unfold xS;rfl
 refine Ok.e (λh=>Ok.d ?_) λh=>Ok.d ?_
 ·have h:([0,1,2,3,4,5,6,7,8,9,10,11,12,13,14,15,16,17,18,19,20,21,22,23,24,25,26,27,28,29,30,31]:List Nat).all (λi=>Zd (xS k p) i==0)=true:=h;rw[if_pos (hz.1 λi hi=>?_)]
  have:=zJ.1 h i (by simp;omega);grind
 ·have h:([0,1,2,3,4,5,6,7,8,9,10,11,12,13,14,15,16,17,18,19,20,21,22,23,24,25,26,27,28,29,30,31]:List Nat).all (λi=>Zd (xS k p) i==0)=false:=h;refine(if_neg λh0=>?_).symm;simp_all
end
abbrev Out:=(Q2×List Qq)⊕(Bool×Int)
def Jk(k:Int)(b:ze):ze:=strOfNums [k % 256,(b.size:Int) / 65536 % 256,(b.size:Int) / 256 % 256,(b.size:Int) % 256]++b
theorem K6(k:Int)(b:ze):(Jk k b).size=4+b.size:=by unfold Jk;rw[ByteArray.size_append,E5];rfl
def Mz(st now:Int):Z9:=if st=1\/st=6 then iS else Ai now
def Uw(s:Q2):ze:=xS s.fW V2
theorem F9(s:Q2):(Uw s).size=32:=ZA _ _
def MQ:ze:=strOfNums (List.replicate 32 0)
def nL:ze:=bs [116,97,110,110,111,121,32,109,97,115,116,101,114]
def Kp:ze:=bs [99,108,105,101,110,116]
def Xe:ze:=bs [115,101,114,118,101,114]
def FC(a b c d:ze):ze:=RK (a++b) (c++d) nL
def L0(m side s:ze):ze:=ZJ (RK m zg side) (UD s)
theorem X4(m side s:ze):(L0 m side s).size=32:=B4 _ _
def MI(s:Q2)(st k:Int)(b:ze):Q2:={ s with fo:=st,fm:=s.fm+1,fM:=[⟨k,s.fm,b⟩],fq:=Mz st s.fk }
def Un(s:Q2)(e:Int):Q2:={ s with fo:=7,fB:=zg,fj:=⟨zg,zg,zg⟩,fH:=zg,fM:=[],fq:=iS,fZ:=e }
def UX(s:Q2):Out:=bif s.fp==1&&s.fo==1 then .inl (MI s 2 1 (s.fA++Uw s),[⟨1,s.fm,s.fA++Uw s⟩]) else .inr (false,8)
def Zv(s:Q2)(b:ze):Out:=
 if b.size≠32 then .inr (false,5) else if ¬s.fm < 7 then .inr (false,3) else
 .inl ({ MI s 3 1 (s.fA++Uw s++b) with fB:=Jk 1 (s.fA++Uw s++b) },[⟨1,s.fm,s.fA++Uw s++b⟩])
def WH(s:Q2)(b:ze):ze:=s.fB++Jk 3 b
def DW(s:Q2)(b:ze):ze:=FC (xS s.fW (Zj (b.extract 64 b.size)).fI) (xS s.fY (b.extract 32 64)) s.fA (b.extract 0 32)
def Hd(s:Q2)(b:ze):ze:=L0 (DW s b) Kp (WH s b++s.fh)++s.fh
def X7(s:Q2)(b:ze):Out:=
 if ¬64 < b.size then .inr (false,5) else if okB (b.extract 64 b.size)=false then .inr (false,5) else
 if T9 (Zj (b.extract 64 b.size)) s.fJ s.fk≠0 then .inr (true,T9 (Zj (b.extract 64 b.size)) s.fJ s.fk) else
 if xS s.fW (Zj (b.extract 64 b.size)).fI=MQ\/xS s.fY (b.extract 32 64)=MQ then .inr (true,2) else
 .inl ({ MI s 5 4 (Hd s b) with fj:=⟨b.extract 0 32,b.extract 32 64,b.extract 64 b.size⟩,fH:=DW s b,fB:=WH s b++Jk 4 (Hd s b) },[⟨4,s.fm,Hd s b⟩])
def JQ(s:Q2)(b:ze):Out:=
 if b.size≠32 then .inr (false,5) else if b≠L0 s.fH Xe s.fB then .inr (true,9) else
 .inl ({ s with fB:=s.fB++Jk 5 b,fo:=6,fM:=[],fq:=iS },[])
def Dx(s:Q2)(b:ze):ze:=s.fB++Jk 1 b
def HZ(s:Q2):ze:=s.fA++Uw s++s.fh
def R3(s:Q2)(f b:ze):Out:=
 if b.size≠64/\b.size≠96 then .inr (false,5) else
 if b.extract 64 b.size≠ZJ s.fX (f++b.extract 0 64) then (if ¬s.fm < 6 then .inr (false,3) else .inl (MI s 1 2 (ZJ s.fX (f++b.extract 0 64)),[⟨2,s.fm,ZJ s.fX (f++b.extract 0 64)⟩])) else
 .inl ({ MI s 4 3 (HZ s) with fj:=⟨b.extract 0 32,b.extract 32 64,zg⟩,fB:=Dx s b++Jk 3 (HZ s) },[⟨3,s.fm,HZ s⟩])
def Kg(s:Q2)(b:ze):ze:=FC (xS s.fY s.fj.fO) (xS s.fW (Zj (b.extract 32 b.size)).fI) s.fj.fA s.fA
def Mk(s:Q2)(b:ze):ze:=s.fB++Jk 4 b
def Hb(s:Q2)(b:ze):ze:=L0 (Kg s b) Xe (Mk s b)
def G3(s:Q2)(b:ze):Out:=
 if ¬32 < b.size then .inr (false,5) else if okB (b.extract 32 b.size)=false then .inr (false,5) else
 if T9 (Zj (b.extract 32 b.size)) s.fJ s.fk≠0 then .inr (true,T9 (Zj (b.extract 32 b.size)) s.fJ s.fk) else
 if xS s.fY s.fj.fO=MQ\/xS s.fW (Zj (b.extract 32 b.size)).fI=MQ then .inr (true,2) else
 if b.extract 0 32≠L0 (Kg s b) Kp (s.fB++b.extract 32 b.size) then .inr (true,9) else
 .inl ({ MI s 6 5 (Hb s b) with fj:=⟨s.fj.fA,s.fj.fO,b.extract 32 b.size⟩,fH:=Kg s b,fB:=Mk s b++Jk 5 (Hb s b) },[⟨5,s.fm,Hb s b⟩])
def U6(s:Q2)(f:ze)(n:Qq):Out:=
 if s.fp=1/\(s.fo=2\/s.fo=3)/\n.fw=2 then Zv s n.fG else
 if s.fp=1/\s.fo=3/\n.fw=3 then X7 s n.fG else
 if s.fp=1/\s.fo=5/\n.fw=5 then JQ s n.fG else
 if s.fp=2/\s.fo=1/\n.fw=1 then R3 s f n.fG else
 if s.fp=2/\s.fo=4/\n.fw=4 then G3 s n.fG else .inr (false,8)
def MM(s:Q2):Out:=bif !(Je s.fq s.fk).1 then .inl (s,[]) else bif (GP s.fq s.fk).2 != 0 then .inr (true,6) else .inl ({ s with fq:=(GP s.fq s.fk).1 },s.fM)
def HY(s:Q2)(v:Q6):Out:=
 if v.fw=1 then UX s else if v.fw=2 then U6 s v.fF v.fP else if v.fw=3 then MM s else .inl (s,bif s.fp==2 then s.fM else [])
def Bp(s:Q2)(v:Q6):Bool:=decide (1<=v.fw)&&(decide (v.fw<=4)&&(decide (s.fk<=v.fk)&&(decide (v.fk<=1099511627776)&&(decide ((v.fF.size:Int)<=64)&&(v.fw != 2 || B1 v.fP)))))
def Dl(s:Q2):Out->Q2×List Qq×Int
 | .inl r=>(r.1,r.2,0)
 | .inr (true,e)=>(Un s e,[],0)
 | .inr (false,e)=>(Pb,[],e)
def J1(s:Q2)(v:Q6):Q2×List Qq×Int:=
 bif QY s then bif Bp s v then Dl { s with fk:=v.fk } (HY { s with fk:=v.fk } v) else (Pb,[],2) else (Pb,[],200)
theorem LG(k p:ze):xS k p=MQ↔xN (Yf (Dc k)) (Yf p % 2 ^ 255)=0:=by
 have hlt:xN (Yf (Dc k)) (Yf p % 2 ^ 255) < 2 ^ 255:=Nat.lt_trans (Nat.mod_lt _ (by decide +kernel)) (by decide +kernel:nP < 2 ^ 255);rw[<-La hlt]
 have hz:(xS k p).size=MQ.size:=by rw[ZA];rfl
 have z0:∀i:Nat,i < 32->QZ MQ (i:Int)=0:=λi hi=>by
  have:((List.range 32).all λi=>QZ MQ ((i:Nat):Int)==0)=true:=by decide
  grind
 constructor
 ·intro h i hi;show QZ (xS k p) (i:Int)=0;grind
 ·intro h;refine GU hz λi hi=>?_;have hi:i < 32:=by rwa [ZA] at hi
  rw[z0 i hi];exact h i hi
theorem NZ(s:Q2)(h:Y6.any (F7 s)=true):0<=s.fm/\s.fm<=8:=by
 obtain⟨x,hx,h1⟩:=List.any_eq_true.1 h;have hb:(Y6.all λx=>decide (0<=x.ZW/\x.Ug<=8))=true:=by decide
 have hb:=zJ.1 hb x hx;unfold F7 at h1;grind
structure Vf(s:Q2):Prop where
 nw:P9 s.fk=true
 sc:s.fY.size=32
 fr:s.fW.size=32
 rn:s.fA.size=32
 ck:s.fX.size<=32
 bd:okB s.fh=true
 bz:s.fh.size<=86
 pl:s.fJ.length<=8
 ps:∀p,p∈s.fJ->p.size=103
 sd:0<=s.fm/\s.fm<=8
 td:s.fB.size<=412
 tm:V7 s.fq=true
 pb:s.fj.fh.size<=86
 pp:s.fj.fO.size<=32/\s.fj.fA.size<=32
 ma:s.fH.size<=32
 ll:s.fM.length<=1
 lk:s.fp=2->s.fo=4->s.fj.fO.size=32
theorem ZV{s:ze}(h:okB s=true):55<=s.size/\s.size<=86:=by
 unfold okB at h;simp only[zF,zI] at h;obtain⟨h1,h2,h3,h4⟩:=h;obtain⟨z1,z2⟩:=S5 (N6 h4).1;grind [ByteArray.size_extract,Zj,Hr]
theorem XA{s:ze}(h:okB s=true):(Zj s).fI.size=32/\G5 (Zj s)=true:=by
 simp_all [zF,zI,N6,okB]
theorem Gf{s:ze}(h:HW s=true):s.size=0:=by
 simp_all [zI,HW]
theorem YI{s:ze}(h:ZX s=true):s.size=32:=by grind [ZX]
theorem L7{s:Q2}(h:QY s=true):Vf s:=by
 unfold QY RY at h;simp only[zF] at h;obtain⟨⟨h1,h2,h3,h4,h5,h6,h7,h8,h9⟩,h10⟩:=h;have sd:=NZ s h10;obtain⟨x,hx,hl⟩:=List.any_eq_true.1 h10;have hb:(Y6.all λx=>decide (0<=x.Jq/\x.Jq<=240/\(x.QC=0\/x.QC=1\/x.QC=2)/\(x.Jb=2/\x.Yg=4->x.QC=1)))=true:=by decide
 have hb:=zJ.1 hb x hx;rw[zI] at hb;unfold F7 at hl;simp only[zF,beq_iff_eq,zI] at hl;obtain⟨l1,l2,l3,l4,l5,l6,l7,l8⟩:=hl
 have bz:=ZV h7;unfold Kl at h6;simp only[zF,zI,zJ] at h6
 have pk:s.fj.fh.size<=86/\s.fj.fO.size<=32/\s.fj.fA.size<=32/\s.fH.size<=32/\(x.QC=1->s.fj.fO.size=32):=by
  unfold P1 at l7;rcases hb.2.2.1 with hk|hk|hk
  ·simp_all [if_true,zF,Gf]
  ·simp_all [if_true,if_false,zF,YI,Gf]
  simp_all [if_false,zF,YI,ZV]
 refine⟨h1,YI h2,YI h3,YI h4,?_,h7,bz.2,h6.1,λp hp=>?_,sd,?_,h8,pk.1,⟨pk.2.1,pk.2.2.1⟩,pk.2.2.2.1,?_,(by grind)⟩
 ·grind [YI,Gf,UQ]
 ·simp_all [zF,zI,YX]
 ·grind [Uz]
 ·unfold V4 at l8;grind
theorem Vf.sm{s:Q2}(h:Vf s):Sm s:=⟨by have:=h.bz;omega,by have:=h.pb;omega,by have:=h.td;omega,by have:=h.rn;omega,by have:=h.pl;omega,λp hp=>by have:=h.ps p hp;omega,by have:=h.ll;omega⟩
end Go.Proofs.YtjdieimefebnfaaGreatDoor
namespace Go.Proofs.YtjdieimefebnfaaGreatDoor
open Go Go.EV
theorem Ii{s:Q2}(h:Y6.any (F7 s)=true):∃x,x∈Y6/\s.fp=x.Jb/\s.fo=x.Yg/\x.ZW<=s.fm/\s.fm<=x.Ug/\(s.fB.size:Int)=Uz s x/\x.UC=decide (0<=s.fq.fE)/\P1 s x.QC=true/\V4 s x.KW=true:=by
 obtain⟨x,hx,hl⟩:=List.any_eq_true.1 h;unfold F7 at hl;simp only[zF,beq_iff_eq,zI] at hl;exact⟨x,hx,hl⟩
theorem F6{s:Q2}(x:H6)(hx:x∈Y6)(h:s.fp=x.Jb/\s.fo=x.Yg/\x.ZW<=s.fm/\s.fm<=x.Ug/\(s.fB.size:Int)=Uz s x/\x.UC=decide (0<=s.fq.fE)/\P1 s x.QC=true/\V4 s x.KW=true):Y6.any (F7 s)=true:=by
 refine List.any_eq_true.2 ⟨x,hx,?_⟩;unfold F7;simp only[zF,beq_iff_eq,zI];exact h
theorem C1{s:Q2}(h:RY s=true)(h2:Y6.any (F7 s)=true):QY s=true:=by
 unfold QY;rw[h,h2];rfl
theorem C2{s:Q2}(h:QY s=true):RY s=true/\Y6.any (F7 s)=true:=by
 unfold QY at h;simpa using h
structure Fx(s:Q2):Prop where
 nw:P9 s.fk=true
 sc:ZX s.fY=true
 fr:ZX s.fW=true
 rn:ZX s.fA=true
 ck:UQ s=true
 pr:Kl s=true
 bd:okB s.fh=true
 tm:V7 s.fq=true
 wy:Xw s=true
theorem E1(s:Q2):RY s=true↔Fx s:=by
 unfold RY;simp only[zF];exact⟨λ⟨a,b,c,d,e,f,g,h,i⟩=>⟨a,b,c,d,e,f,g,h,i⟩,λ⟨a,b,c,d,e,f,g,h,i⟩=>⟨a,b,c,d,e,f,g,h,i⟩⟩
theorem N8{n:Int}:P9 n=true↔0<=n/\n<=1099511627776:=by unfold P9;simp
theorem Fz:V7 iS=true:=by rfl
theorem PN{n:Int}(h:0<=n):V7 (Ai n)=true:=by
 unfold V7 Ai ZL;have:((n+400:Int)==-1)=false:=by simp;omega
 simp only[this,cond_false];simp;omega
theorem Fe{s:Q2}(h:QY s=true){n:Int}(hn:P9 n=true):QY { s with fk:=n }=true:=by
 obtain⟨h1,h2⟩:=C2 h;have f:=(E1 s).1 h1;exact C1 ((E1 _).2 ⟨hn,f.sc,f.fr,f.rn,f.ck,f.pr,f.bd,f.tm,f.wy⟩) h2
theorem yO{s t:Q2}(h:Xw s=true)(hs:s.fo≠7)(ht:t.fo≠7)(e:t.fZ=s.fZ):Xw t=true:=by
 unfold Xw at *
 rw[if_neg hs] at h;rw[if_neg ht,e];exact h
theorem Tw{s:ze}(h:HW s=true):s=zg:=by unfold HW at h;simpa using h
theorem JJ{s:ze}(h:s.size=32):ZX s=true:=by unfold ZX;simpa using h
theorem Ky{s:Q2}{k q:Int}{b:ze}(hl:s.fM=[⟨k,q,b⟩])(hk:1<=k/\k<=5)(hb:b.size<=4000)(hq:0<=q/\q<=8)(hs:s.fm=q+1):V4 s k=true:=by
 unfold V4 B1;rw[if_neg (by omega),hl,hs];have:Q0 (q+1 - 1)=q:=by rw[Z2 (by omega) (by omega)];omega
 simp only[this,zF,zI,beq_iff_eq];exact⟨by omega,trivial,trivial⟩
theorem Wi{s:Q2}(h:s.fM=[]):V4 s 0=true:=by unfold V4;rw[if_pos rfl,h];rfl
theorem MP{s:Q2}(h:s.fj=⟨zg,zg,zg⟩)(hm:s.fH=zg):P1 s 0=true:=by
 unfold P1;rw[if_pos rfl,h,hm];decide
theorem Lu{s:Q2}(h:P1 s 0=true):(s.fj.fA=zg/\s.fj.fO=zg/\s.fj.fh=zg)/\s.fH=zg:=by
 unfold P1 at h;rw[if_pos rfl] at h;simp only[zF] at h;exact⟨⟨Tw h.1,Tw h.2.1,Tw h.2.2.1⟩,Tw h.2.2.2⟩
theorem Px{s:Q2}(f:Fx s){b:Z5}(hb:G5 b=true):T9 b s.fJ s.fk=0\/T9 b s.fJ s.fk=4\/T9 b s.fJ s.fk=10:=by
 have hp:=f.pr;unfold Kl at hp;simp only[zF,zI] at hp
 have hn:=N8.1 f.nw
 have h1:(s.fJ.any λx=>!YX x)=false:=by
  rw[List.any_eq_false];intro x hx;have:=zJ.1 hp.2 x hx;simp[this]
 unfold T9 By;rw[hb,h1];have h2:decide (8 < s.fJ.length)=false:=by simp;omega
 rw[h2];have h3:(decide (s.fk < 0) || decide (1099511627776 < s.fk))=false:=by simp;omega
 rw[h3];simp only[Bool.not_true,cond_false];cases (s.fJ.any λx=>decide (M8 (UD (K5 b))=x))<;>cases (decide (s.fk < b.fF) || decide (b.fC < s.fk))<;>simp
theorem Jz{s:Q2}(h:QY s=true){e:Int}(he:e=2\/e=4\/e=6\/e=9\/e=10):QY (Un s e)=true:=by
 obtain⟨h1,h2⟩:=C2 h;have f:=(E1 s).1 h1;have sd:=NZ s h2;obtain⟨x,hx,l1,_⟩:=Ii h2;have hs:s.fp=1\/s.fp=2:=by
  have:(Y6.all λx=>decide (x.Jb=1\/x.Jb=2))=true:=by decide
  have:=zJ.1 this x hx;rw[zI] at this;omega
 refine C1 ((E1 _).2 ⟨f.nw,f.sc,f.fr,f.rn,f.ck,f.pr,f.bd,Fz,?_⟩) ?_
 ·unfold Xw Un;rw[if_pos rfl];simp only[zY,beq_iff_eq];omega
 ·rcases hs with hs|hs
  ·exact F6 ⟨1,7,0,8,0,0,0,false⟩ (by simp[Y6]) ⟨hs,rfl,sd.1,sd.2,by rfl,by rfl,MP rfl rfl,Wi rfl⟩
  ·exact F6 ⟨2,7,0,8,0,0,0,false⟩ (by simp[Y6]) ⟨hs,rfl,sd.1,sd.2,by rfl,by rfl,MP rfl rfl,Wi rfl⟩
theorem KR{s:Q2}(h:Y6.any (F7 s)=true) :
  (s.fp=1/\s.fo=1->s.fm=0/\s.fB.size=0/\P1 s 0=true)/\
  (s.fp=1/\(s.fo=2\/s.fo=3)->1<=s.fm/\s.fm<=7/\P1 s 0=true)/\
  (s.fp=1/\s.fo=3->2<=s.fm/\s.fB.size=100)/\
  (s.fp=1/\s.fo=5->3<=s.fm/\s.fm<=8/\s.fB.size=204+s.fh.size+s.fj.fh.size/\P1 s 2=true)/\
  (s.fp=2/\s.fo=1->0<=s.fm/\s.fm<=6/\s.fB.size=0/\P1 s 0=true)/\
  (s.fp=2/\s.fo=4->1<=s.fm/\s.fm<=7/\s.fB.size=168+s.fh.size/\P1 s 1=true):=by
 obtain⟨x,hx,l1,l2,l3,l4,l5,l6,l7,l8⟩:=Ii h;simp only[Y6,zR,zZ,or_false] at hx;rcases hx with rfl|rfl|rfl|rfl|rfl|rfl|rfl|rfl|rfl|rfl|rfl<;>simp only[Uz] at l1 l2 l3 l4 l5 l7<;>refine⟨λq=>?_,λq=>?_,λq=>?_,λq=>?_,λq=>?_,λq=>?_⟩<;>first|(exfalso;omega)|(refine⟨?_,?_,?_,?_⟩<;>first|omega|exact l7|(simp at l5;omega))|(refine⟨?_,?_,?_⟩<;>first|omega|exact l7|(simp at l5;omega))|(refine⟨?_,?_⟩<;>first|omega|exact l7|(simp at l5;omega))
theorem Kj{s:Q2}(f:Fx s)(h7:s.fo≠7){st:Int}(k:Int)(b:ze)(hst:st≠7)(P:W9)(T M:ze):Fx { MI s st k b with fj:=P,fB:=T,fH:=M }:=by
 refine⟨f.nw,f.sc,f.fr,f.rn,f.ck,f.pr,f.bd,?_,yO f.wy h7 hst rfl⟩;show V7 (Mz st s.fk)=true;unfold Mz;split
 ·rfl
 ·exact PN (N8.1 f.nw).1
theorem MA{st now:Int}(h:¬(st=1\/st=6))(hn:0<=now):decide (0<=(Mz st now).fE)=true:=by
 unfold Mz Ai;rw[if_neg h];simp;omega
theorem KT{s:ze}(h:ZX s=true):s.size=32:=YI h
theorem TX{s:Q2}(h:QY s=true){r:Q2×List Qq}(hr:UX s=.inl r):QY r.1=true:=by
 obtain⟨h1,h2⟩:=C2 h;have f:=(E1 s).1 h1;unfold UX at hr;cases hc:(s.fp==1&&s.fo==1) with
 | false=>rw[hc] at hr;cases hr
 | true=>
  rw[hc] at hr;obtain rfl:=Sum.inl.inj hr;simp only[zF,beq_iff_eq] at hc;obtain⟨g1,g2,g3⟩:=(KR h2).1 hc;have pz:=Lu g3;refine C1 ((E1 _).2 (Kj f (by omega) 1 _ (by decide) s.fj s.fB s.fH)) (F6 ⟨1,2,1,1,0,0,1,true⟩ (by simp[Y6]) ⟨hc.1,rfl,?_,?_,?_,(MA (by decide) (N8.1 f.nw).1).symm,g3,?_⟩)
  ·show (1:Int)<=s.fm+1;omega
  ·show s.fm+1<=(1:Int);omega
  ·show (s.fB.size:Int)=0;omega
  ·exact Ky rfl (by decide) (by rw[ByteArray.size_append,F9,KT f.rn];decide) (by omega) rfl
theorem Vw{s:Q2}(h:QY s=true)(hs:s.fp=1/\(s.fo=2\/s.fo=3)){b:ze}{r:Q2×List Qq}(hr:Zv s b=.inl r):QY r.1=true:=by
 obtain⟨h1,h2⟩:=C2 h;have f:=(E1 s).1 h1;obtain⟨g1,g2,g3⟩:=(KR h2).2.1 hs;unfold Zv at hr;split at hr
 ·cases hr
 ·rename_i hb;split at hr
  ·cases hr
  ·rename_i hq;obtain rfl:=Sum.inl.inj hr;have hb:b.size=32:=by simpa using hb
   have z:(s.fA++Uw s++b).size=96:=by rw[ByteArray.size_append,ByteArray.size_append,F9,KT f.rn,hb]
   refine C1 ((E1 _).2 (Kj f (by omega) 1 _ (by decide) s.fj _ s.fH)) (F6 ⟨1,3,2,7,100,0,1,true⟩ (by simp[Y6]) ⟨hs.1,rfl,?_,?_,?_,(MA (by decide) (N8.1 f.nw).1).symm,g3,?_⟩)
   ·show (2:Int)<=s.fm+1;omega
   ·show s.fm+1<=(7:Int);omega
   ·show ((Jk 1 (s.fA++Uw s++b)).size:Int)=100;rw[K6,z];rfl
   ·exact Ky rfl (by decide) (by rw[z];decide) (by omega) rfl
theorem Rk(a b c d:ze):(FC a b c d).size=32:=B4 _ _
theorem BG{s:Q2}(h:QY s=true)(hs:s.fp=1/\s.fo=3){b:ze}:(∀r,X7 s b=.inl r->QY r.1=true)/\∀e,X7 s b=.inr (true,e)->QY (Un s e)=true:=by
 obtain⟨h1,h2⟩:=C2 h;have f:=(E1 s).1 h1;obtain⟨g1,g2,g3⟩:=(KR h2).2.1 ⟨hs.1,.inr hs.2⟩;obtain⟨g4,g5⟩:=(KR h2).2.2.1 hs;unfold X7;by_cases c1:¬64 < b.size
 ·rw[if_pos c1];exact⟨λr hr=>(by cases hr),λe he=>by cases he⟩
 rw[if_neg c1];by_cases c2:okB (b.extract 64 b.size)=false
 ·rw[if_pos c2];exact⟨λr hr=>(by cases hr),λe he=>by cases he⟩
 rw[if_neg c2];have c2:okB (b.extract 64 b.size)=true:=by simpa using c2
 have ac:=Px f (XA c2).2;by_cases c3:T9 (Zj (b.extract 64 b.size)) s.fJ s.fk≠0
 ·rw[if_pos c3];exact⟨λr hr=>(by cases hr),λe he=>(Prod.mk.inj (Sum.inr.inj he)).2▸Jz h (by omega)⟩
 rw[if_neg c3];by_cases c4:xS s.fW (Zj (b.extract 64 b.size)).fI=MQ\/xS s.fY (b.extract 32 64)=MQ
 ·rw[if_pos c4];exact⟨λr hr=>(by cases hr),λe he=>(Prod.mk.inj (Sum.inr.inj he)).2▸Jz h (.inl rfl)⟩
 rw[if_neg c4];refine⟨λr hr=>?_,λe he=>(by cases he)⟩;obtain rfl:=Sum.inl.inj hr;have zb:(b.extract 64 b.size).size=b.size - 64:=by rw[ByteArray.size_extract];omega
 have zB:(Hd s b).size=32+s.fh.size:=by unfold Hd;rw[ByteArray.size_append,X4]
 have bz:=ZV f.bd;refine C1 ((E1 _).2 (Kj f (by omega) 4 _ (by decide) _ _ _)) (F6 ⟨1,5,3,8,204,2,4,true⟩ (by simp[Y6]) ⟨hs.1,rfl,?_,?_,?_,(MA (by decide) (N8.1 f.nw).1).symm,?_,?_⟩)
 ·show (3:Int)<=s.fm+1;omega
 ·show s.fm+1<=(8:Int);omega
 ·show ((WH s b++Jk 4 (Hd s b)).size:Int)=204+(s.fh.size:Int)+((b.extract 64 b.size).size:Int);unfold WH;rw[ByteArray.size_append,ByteArray.size_append,K6,K6,zB,zb,g5];omega
 ·show (ZX (b.extract 0 32)&&(ZX (b.extract 32 64)&&(ZX (DW s b)&&okB (b.extract 64 b.size))))=true;rw[c2,JJ (by rw[ByteArray.size_extract];omega),JJ (by rw[ByteArray.size_extract];omega),JJ (show (DW s b).size=32 from Rk _ _ _ _)];rfl
 ·exact Ky rfl (by decide) (by rw[zB];omega) (by omega) rfl
theorem xM{s:Q2}(h:QY s=true)(hs:s.fp=1/\s.fo=5){b:ze}:(∀r,JQ s b=.inl r->QY r.1=true)/\∀e,JQ s b=.inr (true,e)->QY (Un s e)=true:=by
 obtain⟨h1,h2⟩:=C2 h;have f:=(E1 s).1 h1;obtain⟨g1,g2,g3,g4⟩:=(KR h2).2.2.2.1 hs;unfold JQ;by_cases c1:b.size≠32
 ·rw[if_pos c1];exact⟨λr hr=>(by cases hr),λe he=>by cases he⟩
 rw[if_neg c1];by_cases c2:b≠L0 s.fH Xe s.fB
 ·rw[if_pos c2];exact⟨λr hr=>(by cases hr),λe he=>(Prod.mk.inj (Sum.inr.inj he)).2▸Jz h (by decide)⟩
 rw[if_neg c2];refine⟨λr hr=>?_,λe he=>(by cases he)⟩;obtain rfl:=Sum.inl.inj hr;refine C1 ((E1 _).2 ⟨f.nw,f.sc,f.fr,f.rn,f.ck,f.pr,f.bd,Fz,yO f.wy (by omega) (show (6:Int)≠7 by decide) rfl⟩) (F6 ⟨1,6,3,8,240,2,0,false⟩ (by simp[Y6]) ⟨hs.1,rfl,g1,g2,?_,rfl,g4,Wi rfl⟩);show ((s.fB++Jk 5 b).size:Int)=240+(s.fh.size:Int)+(s.fj.fh.size:Int);rw[ByteArray.size_append,K6,g3];omega
theorem VD{s:Q2}(h:QY s=true)(hs:s.fp=2/\s.fo=1){from_ b:ze}{r:Q2×List Qq}(hr:R3 s from_ b=.inl r):QY r.1=true:=by
 obtain⟨h1,h2⟩:=C2 h;have f:=(E1 s).1 h1;obtain⟨g1,g2,g3,g4⟩:=(KR h2).q.1 hs;have pz:=Lu g4;unfold R3 at hr;split at hr
 ·cases hr
 rename_i c1;split at hr
 ·split at hr
  ·cases hr
  rename_i c3;obtain rfl:=Sum.inl.inj hr;refine C1 ((E1 _).2 (Kj f (by omega) 2 _ (by decide) s.fj s.fB s.fH)) (F6 ⟨2,1,1,6,0,0,2,false⟩ (by simp[Y6]) ⟨hs.1,rfl,?_,?_,?_,rfl,g4,?_⟩)
  ·show (1:Int)<=s.fm+1;omega
  ·show s.fm+1<=(6:Int);omega
  ·show (s.fB.size:Int)=0;omega
  ·exact Ky rfl (by decide) (by rw[B4];decide) (by omega) rfl
 ·rename_i c2;obtain rfl:=Sum.inl.inj hr;have c2:b.extract 64 b.size=ZJ s.fX (from_++b.extract 0 64):=by simpa using c2
  have zb:b.size=96:=by
   have e:=congrArg ByteArray.size c2;rw[B4,ByteArray.size_extract] at e;omega
  have zh:(HZ s).size=64+s.fh.size:=by unfold HZ;rw[ByteArray.size_append,ByteArray.size_append,F9,KT f.rn]
  have bz:=ZV f.bd;refine C1 ((E1 _).2 (Kj f (by omega) 3 _ (by decide) _ _ s.fH)) (F6 ⟨2,4,1,7,168,1,3,true⟩ (by simp[Y6]) ⟨hs.1,rfl,?_,?_,?_,(MA (by decide) (N8.1 f.nw).1).symm,?_,?_⟩)
  ·show (1:Int)<=s.fm+1;omega
  ·show s.fm+1<=(7:Int);omega
  ·show ((Dx s b++Jk 3 (HZ s)).size:Int)=168+(s.fh.size:Int);unfold Dx;rw[ByteArray.size_append,ByteArray.size_append,K6,K6,zh,zb,g3];omega
  ·show (ZX (b.extract 0 32)&&(ZX (b.extract 32 64)&&(HW zg&&HW s.fH)))=true;rw[pz.2,JJ (by rw[ByteArray.size_extract];omega),JJ (by rw[ByteArray.size_extract];omega)];decide
  ·exact Ky rfl (by decide) (by rw[zh];omega) (by omega) rfl
theorem Vm{s:Q2}(h:QY s=true)(hs:s.fp=2/\s.fo=4){b:ze}:(∀r,G3 s b=.inl r->QY r.1=true)/\∀e,G3 s b=.inr (true,e)->QY (Un s e)=true:=by
 obtain⟨h1,h2⟩:=C2 h;have f:=(E1 s).1 h1;obtain⟨g1,g2,g3,g4⟩:=(KR h2).q.2 hs;unfold G3;by_cases c1:¬32 < b.size
 ·rw[if_pos c1];exact⟨λr hr=>(by cases hr),λe he=>by cases he⟩
 rw[if_neg c1];by_cases c2:okB (b.extract 32 b.size)=false
 ·rw[if_pos c2];exact⟨λr hr=>(by cases hr),λe he=>by cases he⟩
 rw[if_neg c2];have c2:okB (b.extract 32 b.size)=true:=by simpa using c2
 have ac:=Px f (XA c2).2;by_cases c3:T9 (Zj (b.extract 32 b.size)) s.fJ s.fk≠0
 ·rw[if_pos c3];exact⟨λr hr=>(by cases hr),λe he=>(Prod.mk.inj (Sum.inr.inj he)).2▸Jz h (by omega)⟩
 rw[if_neg c3];by_cases c4:xS s.fY s.fj.fO=MQ\/xS s.fW (Zj (b.extract 32 b.size)).fI=MQ
 ·rw[if_pos c4];exact⟨λr hr=>(by cases hr),λe he=>(Prod.mk.inj (Sum.inr.inj he)).2▸Jz h (.inl rfl)⟩
 rw[if_neg c4];by_cases c5:b.extract 0 32≠L0 (Kg s b) Kp (s.fB++b.extract 32 b.size)
 ·rw[if_pos c5];exact⟨λr hr=>(by cases hr),λe he=>(Prod.mk.inj (Sum.inr.inj he)).2▸Jz h (by decide)⟩
 rw[if_neg c5];refine⟨λr hr=>?_,λe he=>(by cases he)⟩;obtain rfl:=Sum.inl.inj hr;have zb:(b.extract 32 b.size).size=b.size - 32:=by rw[ByteArray.size_extract];omega
 have zC:(Hb s b).size=32:=X4 _ _ _
 have g4':ZX s.fj.fA=true/\ZX s.fj.fO=true:=by
  unfold P1 at g4;simp only[show ¬(1:Int)=0 by decide,if_true,if_false,zF] at g4;exact⟨g4.1,g4.2.1⟩
 refine C1 ((E1 _).2 (Kj f (by omega) 5 _ (by decide) _ _ _)) (F6 ⟨2,6,2,8,240,2,5,false⟩ (by simp[Y6]) ⟨hs.1,rfl,?_,?_,?_,rfl,?_,?_⟩)
 ·show (2:Int)<=s.fm+1;omega
 ·show s.fm+1<=(8:Int);omega
 ·show ((Mk s b++Jk 5 (Hb s b)).size:Int)=240+(s.fh.size:Int)+((b.extract 32 b.size).size:Int);unfold Mk;rw[ByteArray.size_append,ByteArray.size_append,K6,K6,zC,zb,g3];omega
 ·show (ZX s.fj.fA&&(ZX s.fj.fO&&(ZX (Kg s b)&&okB (b.extract 32 b.size))))=true;rw[c2,g4'.1,g4'.2,JJ (show (Kg s b).size=32 from Rk _ _ _ _)];rfl
 ·exact Ky rfl (by decide) (by rw[zC];decide) (by omega) rfl
theorem Tm{t:Z9}{now:Int}(h:(Je t now).1=true):V7 t=true/\P9 now=true/\0<=t.fE/\(Je t now).2=0:=by
 unfold Je at *
 cases h1:V7 t with
 | false=>rw[h1] at h;cases h
 | true=>
  cases h2:P9 now with
  | false=>rw[h1,h2] at h;cases h
  | true=>
   rw[h1,h2] at h;simp only[Bool.not_true,cond_false,zF,zI] at h;exact⟨rfl,rfl,h.1,rfl⟩
theorem yL(k:Int):0<=ZL k:=by unfold ZL;repeat' split<;>try decide
theorem Qua{t:Z9}{now:Int}(h:(Je t now).1=true)(h2:(GP t now).2=0):V7 (GP t now).1=true/\0<=(GP t now).1.fE:=by
 obtain⟨g1,g2,g3,g4⟩:=Tm h;have gn:=N8.1 g2;have e:GP t now=bif t.fL==8 then (stZ,4) else (⟨now+ZL (t.fL+1),ZL (t.fL+1),t.fL+1⟩,0):=by
  unfold GP;rw[g4,h];rfl
 rw[e] at h2 ⊢;cases h8:(t.fL==8) with
 | true=>rw[h8] at h2;cases h2
 | false=>
  rw[h8] at h2;simp only[cond_false];have h8:t.fL≠8:=by simpa using h8
  have hw:=yL (t.fL+1);unfold V7 at g1 ⊢;rw[show (t.fE==-1)=false by simp;omega] at g1;simp only[cond_false,zF,zI] at g1;rw[show (now+ZL (t.fL+1)==-1)=false by simp;omega];simp only[cond_false,zF,zI,beq_self_eq_true,and_true];omega
theorem yV{s:Q2}(h:QY s=true):(∀r,MM s=.inl r->QY r.1=true)/\∀e,MM s=.inr (true,e)->QY (Un s e)=true:=by
 obtain⟨h1,h2⟩:=C2 h;have f:=(E1 s).1 h1;unfold MM;cases hd:(Je s.fq s.fk).1 with
 | false=>exact⟨λr hr=>by obtain rfl:=Sum.inl.inj hr;exact h,λe he=>(by cases he)⟩
 | true=>
  cases ha:(GP s.fq s.fk).2 != 0 with
  | true=>exact⟨λr hr=>(by cases hr),λe he=>(Prod.mk.inj (Sum.inr.inj he)).2▸Jz h (by decide)⟩
  | false=>
   refine⟨λr hr=>?_,λe he=>(by cases he)⟩;obtain rfl:=Sum.inl.inj hr;have ha:(GP s.fq s.fk).2=0:=by simpa using ha
   obtain⟨q1,q2⟩:=Qua hd ha;obtain⟨g1,g2,g3,g4⟩:=Tm hd;obtain⟨x,hx,l1,l2,l3,l4,l5,l6,l7,l8⟩:=Ii h2;refine C1 ((E1 _).2 ⟨f.nw,f.sc,f.fr,f.rn,f.ck,f.pr,f.bd,q1,f.wy⟩) (F6 x hx ⟨l1,l2,l3,l4,l5,?_,l7,l8⟩);rw[l6];show decide _=decide (0<=(GP s.fq s.fk).1.fE);rw[we g3,we q2]
theorem VX{s:Q2}(h:QY s=true)(f:ze)(n:Qq):(∀r,U6 s f n=.inl r->QY r.1=true)/\∀e,U6 s f n=.inr (true,e)->QY (Un s e)=true:=by
 unfold U6;by_cases c1:s.fp=1/\(s.fo=2\/s.fo=3)/\n.fw=2
 ·rw[if_pos c1];refine⟨λr hr=>Vw h ⟨c1.1,c1.2.1⟩ hr,λe he=>?_⟩;unfold Zv at he;split at he
  ·cases he
  split at he<;>cases he
 rw[if_neg c1];by_cases c2:s.fp=1/\s.fo=3/\n.fw=3
 ·rw[if_pos c2];exact BG h ⟨c2.1,c2.2.1⟩
 rw[if_neg c2];by_cases c3:s.fp=1/\s.fo=5/\n.fw=5
 ·rw[if_pos c3];exact xM h ⟨c3.1,c3.2.1⟩
 rw[if_neg c3];by_cases c4:s.fp=2/\s.fo=1/\n.fw=1
 ·rw[if_pos c4];refine⟨λr hr=>VD h ⟨c4.1,c4.2.1⟩ hr,λe he=>?_⟩;unfold R3 at he;split at he
  ·cases he
  split at he
  ·split at he<;>cases he
  ·cases he
 rw[if_neg c4];by_cases c5:s.fp=2/\s.fo=4/\n.fw=4
 ·rw[if_pos c5];exact Vm h ⟨c5.1,c5.2.1⟩
 rw[if_neg c5];exact⟨λr hr=>(by cases hr),λe he=>(by cases he)⟩
theorem Qjr{s:Q2}(h:QY s=true)(v:Q6):(∀r,HY s v=.inl r->QY r.1=true)/\∀e,HY s v=.inr (true,e)->QY (Un s e)=true:=by
 unfold HY;by_cases c1:v.fw=1
 ·rw[if_pos c1];refine⟨λr hr=>TX h hr,λe he=>?_⟩;unfold UX at he;cases hc:(s.fp==1&&s.fo==1)<;>rw[hc] at he<;>cases he
 rw[if_neg c1];by_cases c2:v.fw=2
 ·rw[if_pos c2];exact VX h _ _
 rw[if_neg c2];by_cases c3:v.fw=3
 ·rw[if_pos c3];exact yV h
 rw[if_neg c3];exact⟨λr hr=>by obtain rfl:=Sum.inl.inj hr;exact h,λe he=>(by cases he)⟩
def oH(x:Out):Prop:=x≠.inr (false,0)
theorem KQ(r:Q2×List Qq):oH (.inl r):=λh=>by cases h
theorem AT(e:Int):oH (.inr (true,e)):=λh=>absurd (Prod.mk.inj (Sum.inr.inj h)).1 (by decide)
theorem Wm{e:Int}(he:e≠0):oH (.inr (false,e)):=λh=>he (Prod.mk.inj (Sum.inr.inj h)).2
theorem D8{p:Prop}[Decidable p]{x y:Out}(hx:oH x)(hy:oH y):oH (if p then x else y):=by split<;>assumption
theorem FR{p:Bool}{x y:Out}(hx:oH x)(hy:oH y):oH (bif p then x else y):=by cases p<;>assumption
theorem Qjs(s:Q2)(v:Q6):oH (HY s v):=by
 unfold HY;refine D8 ?_ (D8 ?_ (D8 ?_ (KQ _)))
 ·exact FR (KQ _) (Wm (by decide))
 ·unfold U6;refine D8 ?_ (D8 ?_ (D8 ?_ (D8 ?_ (D8 ?_ (Wm (by decide))))))
  ·exact D8 (Wm (by decide)) (D8 (Wm (by decide)) (KQ _))
  ·exact D8 (Wm (by decide)) (D8 (Wm (by decide)) (D8 (AT _) (D8 (AT _) (KQ _))))
  ·exact D8 (Wm (by decide)) (D8 (AT _) (KQ _))
  ·exact D8 (Wm (by decide)) (D8 (D8 (Wm (by decide)) (KQ _)) (KQ _))
  ·exact D8 (Wm (by decide)) (D8 (Wm (by decide)) (D8 (AT _) (D8 (AT _) (D8 (AT _) (KQ _)))))
 ·exact FR (KQ _) (FR (AT _) (KQ _))
theorem Qjb{s:Q2}(h:P9 s.fk=true){v:Q6}(he:Bp s v=true):P9 v.fk=true:=by
 unfold Bp at he;simp only[zF,zI] at he;have:=N8.1 h;exact N8.2 (by omega)
theorem ZN{s:Q2}{v:Q6}(h:(J1 s v).2.2=0):QY (J1 s v).1=true:=by
 unfold J1 at *
 cases hs:QY s with
 | false=>rw[hs] at h;exact absurd h (show (200:Int)≠0 by decide)
 | true=>
  rw[hs] at h;cases he:Bp s v with
  | false=>rw[he] at h;exact absurd h (show (2:Int)≠0 by decide)
  | true=>
   rw[he] at h;have h0:=Fe hs (Qjb ((E1 s).1 (C2 hs).1).nw he);have k:=Qjr h0 v;have z:=Qjs { s with fk:=v.fk } v;simp only[cond_true] at h ⊢
   match hq:HY { s with fk:=v.fk } v with
   | .inl r=>exact k.1 r hq
   | .inr (true,e)=>exact k.2 e hq
   | .inr (false,e)=>
    rw[hq] at h;have:e=0:=h;rw[this] at hq;exact absurd hq z
theorem Aa{s:Q2}{v:Q6}(hs:QY s=true)(he:Bp s v=true):J1 s v=Dl { s with fk:=v.fk } (HY { s with fk:=v.fk } v):=by
 unfold J1;rw[hs,he];rfl
theorem Jh{n:Int}(h0:0<=n)(h:n < 32):(bif decide (0<=n)&&decide (n < ((32:Nat):Int)) then some () else none)=some ():=by
 grind
theorem KL{f:zl}{j n:Nat}(hj:j=n)(h:n < 32):(vec f)[j]?=some (f n):=by rw[hj,LP,if_pos h]
theorem gD(a b c:Zu)(hc:∀k,c.getMsbD k=(a.getMsbD k ^^ b.getMsbD k)):Qj (TN a.getMsbD b.getMsbD) (λr=>r=c.getMsbD):=by
 unfold TN;refine Qj.fn ?_;unfold Qkl;refine Ok.o rfl (Ok.o rfl (Ok.o rfl (Ok.o rfl (Ok.b (R:=λe=>e=c.getMsbD) ?_ λe he=>Ok.o rfl (Ok.o rfl (Ok.d he))))));refine Ok.s 32 (by decide) (λk y=>y=(λi=>decide (i < k)&&c.getMsbD i,(k:Int))) (by grind) (λk y hy hk=>?_) λy hy=>?_
 ·subst hy;refine Ok.t (by simp;omega) (Ok.o (r:=()) (Jh (by simp) (by grind)) (Ok.r rfl (KL (n:=k) (by simp) hk) (Ok.o (r:=()) (Jh (by simp) (by grind)) (Ok.r rfl (KL (n:=k) (by simp) hk) (Ok.o (r:=()) (Jh (by simp) (by grind)) (Ok.r rfl (KL (n:=k) (by simp) hk) (Ok.re (Ok.d ?_))))))));show (_,_)=_;rw[Z8 hk (by decide),<-Ah,hc];grind
 ·subst hy;exact Ok.f rfl (Ok.d (Iu _))
theorem SA(a b:Zu):Qj (TN a.getMsbD b.getMsbD) (λr=>r=(a ^^^ b).getMsbD):=gD a b _ λ_=>BitVec.getMsbD_xor
theorem gL(a b c:Zu)(hc:∀k,c.getMsbD k=(a.getMsbD k&&b.getMsbD k)):Qj (NJ a.getMsbD b.getMsbD) (λr=>r=c.getMsbD):=by
 unfold NJ;refine Qj.fn ?_;unfold Qko;refine Ok.o rfl (Ok.o rfl (Ok.o rfl (Ok.o rfl (Ok.b (R:=λe=>e=c.getMsbD) ?_ λe he=>Ok.o rfl (Ok.o rfl (Ok.d he))))));refine Ok.s 32 (by decide) (λk y=>y=(λi=>decide (i < k)&&c.getMsbD i,(k:Int))) (by grind) (λk y hy hk=>?_) λy hy=>?_
 ·subst hy;have g:∀x:Bool,x=c.getMsbD k->(Na (λi=>decide (i < k)&&c.getMsbD i) (0+((k:Int)).toNat) x,Q0 ((k:Int)+1))=(λi=>decide (i < k+1)&&c.getMsbD i,((k+1:Nat):Int)):=λx hx=>by
   rw[Z8 hk (by decide),<-Ah,hx];grind
  refine Ok.t (by simp;omega) (Ok.o (r:=()) (Jh (by simp) (by grind)) (Ok.r rfl (KL (n:=k) (by simp) hk) (Ok.e (λh=>?_) λh=>?_)))
  ·exact Ok.o (r:=()) (Jh (by simp) (by grind)) (Ok.r rfl (KL (n:=k) (by simp) hk) (Ok.o (r:=()) (Jh (by simp) (by grind)) (Ok.r rfl (KL (n:=k) (by simp) hk) (by grind [Ok.re,Ok.d]))))
  ·exact Ok.o (r:=()) (Jh (by simp) (by grind)) (Ok.r rfl (KL (n:=k) (by simp) hk) (by grind [Ok.re,Ok.d]))
 ·subst hy;exact Ok.f rfl (Ok.d (Iu _))
theorem AI(a b:Zu):Qj (NJ a.getMsbD b.getMsbD) (λr=>r=(a &&& b).getMsbD):=gL a b _ λ_=>BitVec.getMsbD_and
theorem gI(a c:Zu)(hc:∀k,c.getMsbD k=(decide (k < 32)&&!a.getMsbD k)):Qj (lH a.getMsbD) (λr=>r=c.getMsbD):=by
 unfold lH;refine Qj.fn ?_;unfold Qki;refine Ok.o rfl (Ok.o rfl (Ok.o rfl (Ok.b (R:=λe=>e=c.getMsbD) ?_ λe he=>Ok.o rfl (Ok.o rfl (Ok.d he)))));refine Ok.s 32 (by decide) (λk y=>y=(λi=>decide (i < k)&&c.getMsbD i,(k:Int))) (by grind) (λk y hy hk=>?_) λy hy=>?_
 ·subst hy;refine Ok.t (by simp;omega) (Ok.o (r:=()) (Jh (by simp) (by grind)) (Ok.r rfl (KL (n:=k) (by simp) hk) (Ok.o (r:=()) (Jh (by simp) (by grind)) (Ok.r rfl (KL (n:=k) (by simp) hk) (Ok.re (Ok.d ?_))))));show (_,_)=_;rw[Z8 hk (by decide),<-Ah,hc];grind
 ·subst hy;exact Ok.f rfl (Ok.d (Iu _))
theorem Qzq(a:Zu):Qj (lH a.getMsbD) (λr=>r=(~~~a).getMsbD):=gI a _ λ_=>BitVec.getMsbD_not
theorem G0(a:Zu)(c:Nat)(hc:c < 32):Qj (Xd a.getMsbD (c:Int)) (λr=>r=(a.rotateRight c).getMsbD):=by
 unfold Xd;refine Qj.fn ?_;unfold Qkg;refine Ok.o rfl (Ok.o rfl (Ok.o rfl (Ok.b (R:=λe=>e=(a.rotateRight c).getMsbD) ?_ λe he=>Ok.o rfl (Ok.o rfl (Ok.d he)))));have back:∀j,j < 32->(a.rotateRight c).getMsbD j=a.getMsbD ((j+32 - c) % 32):=(by grind);refine Ok.s 32 (by decide) (λk y=>y=(λj=>(decide (j < 32)&&decide ((j+32 - c) % 32 < k))&&a.getMsbD ((j+32 - c) % 32),(k:Int))) (by
  grind) (λk y hy hk=>?_) λy hy=>?_
 ·subst hy;have e1:Int.tmod (Q0 ((k:Int)+(c:Int))) 32=(((k+c) % 32:Nat):Int):=by
   grind [Z2,Int.tmod_eq_emod_of_nonneg]
  have hm:(k+c) % 32 < 32:=Nat.mod_lt _ (by decide);refine Ok.t (by simp;omega) (Ok.o (r:=()) (Jh (by simp) (by grind)) (Ok.r rfl (KL (n:=k) (by simp) hk) (Ok.o (r:=()) (Jh (by rw[e1];omega) (by rw[e1];omega)) (Ok.r rfl (KL (n:=(k+c) % 32) (by grind) hm) (Ok.re (Ok.d ?_))))))
  show (_,_)=_;rw[Z8 hk (by decide),e1];congr 1;funext j;simp only[zP,zW,Na];by_cases hj:j=(k+c) % 32
  ·subst hj;have:((k+c) % 32+32 - c) % 32=k:=by omega
   grind
  grind
 ·subst hy;refine Ok.f rfl (Ok.d ?_);grind
theorem NP(a:Zu)(c:Nat)(hc:c < 32):Qj (lW a.getMsbD (c:Int)) (λr=>r=(a >>> c).getMsbD):=by
 unfold lW;refine Qj.fn ?_;unfold Qkf;refine Ok.o rfl (Ok.o rfl (Ok.o rfl (Ok.b (R:=λe=>e=(a >>> c).getMsbD) ?_ λe he=>Ok.o rfl (Ok.o rfl (Ok.d he)))));refine Ok.s (32 - c) (by omega) (λk y=>y=(λj=>(decide (c<=j)&&decide (j < k+c))&&a.getMsbD (j - c),(k:Int))) (by
  grind) (λk y hy hk=>?_) λy hy=>?_
 ·subst hy;have e1:Q0 ((k:Int)+(c:Int))=((k+c:Nat):Int):=by grind [Z2]
  refine Ok.t (by grind) (Ok.o (r:=()) (Jh (by simp) (by simp;omega)) (Ok.r rfl (KL (n:=k) (by simp) (by omega)) (Ok.o (r:=()) (Jh (by rw[e1];omega) (by rw[e1];omega)) (Ok.r rfl (KL (n:=k+c) (by grind) (by omega)) (Ok.re (Ok.d ?_))))));show (_,_)=_;rw[Z8 (n:=32) (by omega) (by decide),e1];congr 1;funext j;simp only[zP,zW,Na];grind
 grind [Ok.f,Z2,Ok.d]
theorem bN(a:Zu){k:Nat}(hk:k < 32):a.getMsbD k=decide (a.toNat / 2 ^ (31 - k) % 2=1):=by
 rw[BitVec.getMsbD,BitVec.getLsbD,Nat.testBit_eq_decide_div_mod_eq];simp[hk]
theorem Ux(a:Zu):Qj (NU a.getMsbD) (λr=>r=iv a):=by
 unfold NU;refine Qj.fn ?_;unfold Qkr;have hlt:=a.isLt;refine Ok.o rfl (Ok.b (R:=λe=>e=iv a) ?_ λe he=>Ok.d he);refine Ok.s 32 (by decide) (λk y=>y=(((a.toNat / 2 ^ (32 - k):Nat):Int),(k:Int))) (by
  grind) (λk y hy hk=>?_) λy hy=>?_
 ·subst hy;have hb:=bN a hk;have hd:a.toNat / 2 ^ (31 - k) / 2=a.toNat / 2 ^ (32 - k):=by rw[Nat.div_div_eq_div_mul,show 32 - k=31 - k+1 by omega,Nat.pow_succ]
  have hs:a.toNat / 2 ^ (31 - k)<=a.toNat:=Nat.div_le_self _ _;rw[show 32 - (k+1)=31 - k by omega];generalize a.toNat / 2 ^ (31 - k)=q at hb hd hs ⊢;rw[<-hd];refine Ok.t (by simp;omega) (Ok.o (r:=()) (Jh (by simp) (by grind)) (Ok.r rfl (KL (n:=k) (by simp) hk) ?_));refine Ok.e (λh=>Ok.d ?_) λh=>Ok.d ?_
  ·show (_,_)=_;rw[hb,zI] at h;grind [Z8,Z2]
  grind [decide_eq_false_iff_not,Z8,Z2]
 ·subst hy;refine Ok.f rfl (Ok.d ?_);simp_all [Nat.pow_zero,Nat.div_one,iv]
theorem Jf(a:Zu):Qj (Oe (iv a)) (λr=>r=a.getMsbD):=by
 unfold Oe;refine Qj.fn ?_;unfold Qkp;have hlt:=a.isLt;refine Ok.o rfl (Ok.o rfl (Ok.b (R:=λe=>e=a.getMsbD) ?_ λe he=>Ok.o rfl (Ok.o rfl (Ok.d he))));refine Ok.s 32 (by decide) (λk y=>y=(λj=>(decide (32 - k<=j)&&decide (j < 32))&&a.getMsbD j,((a.toNat / 2 ^ k:Nat):Int),(31:Int) - (k:Int))) (by
  show (_,_,_)=_;rw[Nat.pow_zero,Nat.div_one];congr 1;grind) (λk y hy hk=>?_) λy hy=>?_
 ·subst hy;have hb:=bN a (k:=31 - k) (by omega);rw[show 31 - (31 - k)=k by omega] at hb;have hd:a.toNat / 2 ^ k / 2=a.toNat / 2 ^ (k+1):=by rw[Nat.div_div_eq_div_mul,Nat.pow_succ]
  have hs:a.toNat / 2 ^ k<=a.toNat:=Nat.div_le_self _ _;rw[<-hd];generalize a.toNat / 2 ^ k=q at hb hd hs ⊢
  have e1:(31:Int) - (k:Int)=((31 - k:Nat):Int):=by omega
  refine Ok.t (by grind) (Ok.o (r:=()) (Jh (by grind) (by grind)) (Ok.r rfl (KL (n:=31 - k) (by grind) (by omega)) (Ok.re (Ok.d ?_))));show (Na _ _ (Int.tmod (q:Int) 2==1),Q0 (Int.tdiv (q:Int) 2),Q0 ((31:Int) - (k:Int) - 1))=_;rw[Int.tdiv_eq_ediv_of_nonneg (by omega),Z2 (n:=(q:Int) / 2) (by omega) (by omega),Z2 (by omega) (by omega),Int.tmod_eq_emod_of_nonneg (by omega)];congr 1
  ·funext j;simp only[e1,zP,zW,Na];grind
  grind
 ·subst hy;refine Ok.f rfl (Ok.d ?_);grind
theorem Wj(a b c:Zu):Qj (Se a.getMsbD b.getMsbD c.getMsbD) (λr=>r=(a ^^^ b ^^^ c).getMsbD):=by
 unfold Se;refine Qj.fn ?_;unfold Qkn;refine Ok.o rfl (Ok.o rfl (Ok.o rfl (Ok.o rfl (Ok.o rfl (Ok.o rfl (Ok.c (SA a b) λr hr=>?_))))));subst hr;refine Ok.o rfl (Ok.c (SA _ c) λr hr=>?_);subst hr;exact Ok.o rfl (Ok.d rfl)
theorem gX(a b c d e:Int)(ha:0<=a/\a < 4294967296)(hb:0<=b/\b < 4294967296)(hc:0<=c/\c < 4294967296)(hd:0<=d/\d < 4294967296)(he:0<=e/\e < 4294967296):Qj (Xx a b c d e) (λr=>r=(a+b+c+d+e) % 4294967296):=by
 refine⟨_,rfl,?_⟩;grind [Z2,Int.tmod_eq_emod_of_nonneg]
theorem qD{s:ze}{k:Nat}(h:k < s.size):(Q3 s)[k]?=some (QZ s (k:Int)):=by
 simp_all [wc,zP,Array.getElem?_toList,wm,wD,Q3,QZ]
theorem XE(s:ze)(h:s.size<=7):Qj (Vz s) (λr=>r=num (Q3 s)):=by
 have hl:=U1 s
 have hb:∀c,c∈Q3 s->0<=c/\c < 256:=λc hc=>WB hc;unfold Vz;refine Qj.fn ?_;unfold Qej;refine Ok.b (R:=λe=>e=num (Q3 s)) ?_ λe he=>Ok.d he;refine Ok.s s.size (by omega) (λk y=>k<=s.size/\y=(num ((Q3 s).take k),(k:Int))) ⟨Nat.zero_le _,rfl⟩ (λk y hy hk=>?_) λy hy=>?_
 ·obtain⟨_,rfl⟩:=hy;refine Ok.t (by simp;omega) (Ok.k (by simp;omega) (Ok.d ?_));obtain⟨x,hx,hx'⟩:=L9 (l:=Q3 s) (k:=k) (by omega);have hbt:QZ s (k:Int)=x:=by
   grind [qD,Option.some.inj]
  have h1:=CH (n:=k) hb (by omega)
  have h2:=hb x (zV hx');grind [Rh,Z8,Z2,Q0,num,Q3,QZ]
 ·obtain⟨_,rfl⟩:=hy;grind [Ok.f,Ok.d,List.take_length,num,Q3]
theorem oN(a b c d e:Zu):(iv a+iv b+iv c+iv d+iv e) % 4294967296=iv (a+b+c+d+e):=by
 grind [iv]
theorem Qz6(a b c d e:Zu):Qj (Xx (iv a) (iv b) (iv c) (iv d) (iv e)) (λr=>r=iv (a+b+c+d+e)):=
 (gX _ _ _ _ _ (Yu a) (Yu b) (Yu c) (Yu d) (Yu e)).mono λr h=>by rw[h,oN]
theorem Wu(a b:Zu):Qj (Xx (iv a) (iv b) 0 0 0) (λr=>r=iv (a+b)):=
 (show Qj (Xx (iv a) (iv b) 0 0 0) (λr=>r=iv (a+b+0+0+0)) from Qz6 a b 0 0 0).mono λr h=>by rw[h];simp
theorem Qwm(a b c d:Zu):Qj (Xx (iv a) (iv b) (iv c) (iv d) 0) (λr=>r=iv (a+b+c+d)):=
 (show Qj (Xx (iv a) (iv b) (iv c) (iv d) 0) (λr=>r=iv (a+b+c+d+0)) from Qz6 a b c d 0).mono λr h=>by rw[h];simp
theorem ix{n:Int}{k m:Nat}(h:n=(k:Int))(hk:k < m):(decide (0<=n)&&decide (n < (m:Int)))=true:=by grind
theorem Sk(b:Nat->Zu)(k:Nat):K9 b (k+1)=K9 b k++[if k < 16 then b k else nxt (K9 b k) k]:=rfl
theorem Sw(b:Nat->Zu):K9 b 0=[]:=rfl
attribute [local irreducible] K9
theorem kO(t:R6)(ht:t.fK=J0)(v:V8)(s:ze)(hs:s.size=64):Qj (vH t (l8 v) s) (λr=>r=l8 (pW KB (bw s) v)):=by
 unfold vH;refine Qj.fn ?_;unfold Qm9;refine Ok.g (Ok.b (R:=λe=>e=(K9 (bw s) 64).map iv) ?_ λe he=>?_)
 ·refine Ok.s 64 (by decide) (λk y=>y=((K9 (bw s) k).map iv,(k:Int))) (by rw[Sw];rfl) (λk y hy hk=>?_) λy hy=>?_
  ·subst hy;have hlen:((K9 (bw s) k).map iv).length=k:=by rw[wG,WI]
   have fin:∀w:Zu,w=(if k < 16 then bw s k else nxt (K9 (bw s) k) k)->(((K9 (bw s) k).map iv)++[iv w],Q0 ((k:Int)+1))=((K9 (bw s) (k+1)).map iv,((k+1:Nat):Int)):=λw hw=>by
    rw[Z8 hk (by decide),Sk,<-hw,wP];rfl
   have sz:∀x:Int,(((K9 (bw s) k).map iv).length+[x].length) * 8<=140737488355328:=(by grind);refine Ok.t (by simp;omega) (Ok.e (λhc=>?_) λhc=>?_)
   ·have hc:(k:Int) < 16:=by simpa using hc
    have e1:Q0 ((4:Int) * (k:Int))=((4 * k:Nat):Int):=by grind [Z2]
    have e2:Q0 (((4 * k:Nat):Int)+4)=((4 * k+4:Nat):Int):=by grind [Z2]
    have ez:(s.extract (4 * k) (4 * k+4)).size=4:=by rw[ByteArray.size_extract];omega
    simp only[e1,e2,zP];refine Ok.k (by simp;omega) (Ok.c (XE _ (by omega)) λr hr=>?_);have hr':r=iv (bw s k):=by
     rw[hr,bw,ivN];have:=mA (l:=Q3 (s.extract (4 * k) (4 * k+4))) λc hc=>WB hc;rw[U1,ez] at this;omega
    subst hr';exact Ok.app (sz _) (Ok.g (Ok.g (Ok.d (by grind))))
   ·have hc:16<=(k:Int):=by simpa using hc
    have e15:Q0 ((k:Int) - 15)=((k - 15:Nat):Int):=by grind [Z2]
    have e2:Q0 ((k:Int) - 2)=((k - 2:Nat):Int):=by grind [Z2]
    have e16:Q0 ((k:Int) - 16)=((k - 16:Nat):Int):=by grind [Z2]
    have e7:Q0 ((k:Int) - 7)=((k - 7:Nat):Int):=by grind [Z2]
    have look:∀n:Nat,n < k->((K9 (bw s) k).map iv)[0+(n:Int).toNat]?=some (iv (Cq (K9 (bw s) k) n)):=λn hn=>by
     simp_all [zP,zW,wc,wl,WI,Cq]
    simp only[e15,e2,e16,e7];refine Ok.k (ix rfl (by omega)) (Ok.r rfl (look (k - 15) (by omega)) (Ok.c (Jf _) λr1 q1=>?_));subst q1;refine Ok.k (ix rfl (by omega)) (Ok.r rfl (look (k - 2) (by omega)) (Ok.c (Jf _) λr2 q2=>?_));subst q2;refine Ok.o rfl (Ok.o rfl (Ok.o rfl (Ok.o rfl (Ok.k (ix rfl (by omega)) (Ok.r rfl (look (k - 16) (by omega)) (Ok.k (ix rfl (by omega)) (Ok.r rfl (look (k - 7) (by omega)) ?_)))))));refine Ok.o rfl (Ok.c (G0 _ 7 (by decide)) λr3 q3=>?_);subst q3;refine Ok.o rfl (Ok.c (G0 _ 18 (by decide)) λr4 q4=>?_);subst q4;refine Ok.o rfl (Ok.c (NP _ 3 (by decide)) λr5 q5=>?_);subst q5;refine Ok.c (Wj _ _ _) λr6 q6=>?_;subst q6;refine Ok.c (Ux _) λr7 q7=>?_;subst q7;refine Ok.o rfl (Ok.c (G0 _ 17 (by decide)) λr3 q3=>?_);subst q3;refine Ok.o rfl (Ok.c (G0 _ 19 (by decide)) λr4 q4=>?_);subst q4;refine Ok.o rfl (Ok.c (NP _ 10 (by decide)) λr5 q5=>?_);subst q5;refine Ok.c (Wj _ _ _) λr6 q6=>?_;subst q6;refine Ok.c (Ux _) λr8 q8=>?_;subst q8;refine Ok.c (Qwm _ _ _ _) λr9 q9=>?_;subst q9;exact Ok.app (sz _) (Ok.g (Ok.g (Ok.d (fin _ (by rw[if_neg (by omega)];rfl)))))
  ·subst hy;exact Ok.f rfl (Ok.d rfl)
 ·subst he;unfold pW;have hlen:((K9 (bw s) 64).map iv).length=64:=by rw[wG,WI]
  generalize K9 (bw s) 64=W at hlen ⊢;refine Ok.app (show (0+8) * 8<=140737488355328 by decide) (Ok.g (Ok.b (R:=λe=>e=l8 (GL KB W v 64)) ?_ λe he=>?_))
  ·refine Ok.s 64 (by decide) (λk y=>y=(l8 (GL KB W v k),(k:Int))) rfl (λk y hy hk=>?_) λy hy=>?_
   ·subst hy;rw[GL];generalize GL KB W v k=u;have hW:W.length=64:=by grind
    have lookW:(W.map iv)[0+(k:Int).toNat]?=some (iv (Cq W k)):=by
     simp_all [zP,zW,wc,wl,Cq]
    have lookK:t.fK[(k:Int).toNat]?=some (iv (Cq KB k)):=by
     grind [Int.toNat_natCast,Wc,List.getElem?_eq_getElem,CS,bV,J0]
    refine Ok.t (by simp;omega) ?_;refine Ok.k rfl (Ok.r rfl (x:=iv u.a) rfl (Ok.c (Jf _) λr q=>?_));subst q;refine Ok.k rfl (Ok.r rfl (x:=iv u.b) rfl (Ok.c (Jf _) λr q=>?_));subst q;refine Ok.k rfl (Ok.r rfl (x:=iv u.c) rfl (Ok.c (Jf _) λr q=>?_));subst q;refine Ok.o rfl (Ok.o rfl (Ok.o rfl (Ok.o rfl (Ok.o rfl (Ok.o rfl ?_)))));refine Ok.k rfl (Ok.r rfl (x:=iv u.e) rfl (Ok.c (Jf _) λr q=>?_));subst q;refine Ok.k rfl (Ok.r rfl (x:=iv u.f) rfl (Ok.c (Jf _) λr q=>?_));subst q;refine Ok.k rfl (Ok.r rfl (x:=iv u.g) rfl (Ok.c (Jf _) λr q=>?_));subst q;refine Ok.o rfl (Ok.o rfl (Ok.o rfl (Ok.o rfl (Ok.o rfl (Ok.o rfl ?_)))));refine Ok.k rfl (Ok.r rfl (x:=iv u.h) rfl ?_);refine Ok.o rfl (Ok.c (G0 u.e 6 (by decide)) λr q=>?_);subst q;refine Ok.o rfl (Ok.c (G0 u.e 11 (by decide)) λr q=>?_);subst q;refine Ok.o rfl (Ok.c (G0 u.e 25 (by decide)) λr q=>?_);subst q;refine Ok.c (Wj _ _ _) λr q=>?_;subst q;refine Ok.c (Ux _) λr q=>?_;subst q;refine Ok.o rfl (Ok.o rfl (Ok.c (AI u.e u.f) λr q=>?_));subst q;refine Ok.o rfl (Ok.c (Qzq u.e) λr q=>?_);subst q;refine Ok.o rfl (Ok.c (AI _ u.g) λr q=>?_);subst q;refine Ok.c (SA _ _) λr q=>?_;subst q;refine Ok.c (Ux _) λr q=>?_;subst q;refine Ok.r (by simp) lookK (Ok.k (by grind) (Ok.r rfl lookW ?_));refine Ok.c (Qz6 _ _ _ _ _) λr q=>?_;subst q;refine Ok.o rfl (Ok.c (G0 u.a 2 (by decide)) λr q=>?_);subst q;refine Ok.o rfl (Ok.c (G0 u.a 13 (by decide)) λr q=>?_);subst q;refine Ok.o rfl (Ok.c (G0 u.a 22 (by decide)) λr q=>?_);subst q;refine Ok.c (Wj _ _ _) λr q=>?_;subst q;refine Ok.c (Ux _) λr q=>?_;subst q;refine Ok.o rfl (Ok.o rfl (Ok.c (AI u.a u.b) λr q=>?_));subst q;refine Ok.o rfl (Ok.o rfl (Ok.c (AI u.a u.c) λr q=>?_));subst q;refine Ok.o rfl (Ok.o rfl (Ok.c (AI u.b u.c) λr q=>?_));subst q;refine Ok.c (Wj _ _ _) λr q=>?_;subst q;refine Ok.c (Ux _) λr q=>?_;subst q;refine Ok.c (Wu _ _) λr q=>?_;subst q;refine Ok.c (Wu _ _) λr q=>?_;subst q;refine Ok.k rfl (Ok.r rfl (x:=iv u.a) rfl (Ok.k rfl (Ok.r rfl (x:=iv u.b) rfl (Ok.k rfl (Ok.r rfl (x:=iv u.c) rfl (Ok.k rfl (Ok.r rfl (x:=iv u.d) rfl (Ok.c (Wu _ _) λr q=>?_))))))));subst q;refine Ok.k rfl (Ok.r rfl (x:=iv u.e) rfl (Ok.k rfl (Ok.r rfl (x:=iv u.f) rfl (Ok.k rfl (Ok.r rfl (x:=iv u.g) rfl (Ok.g (Ok.g (Ok.d ?_))))))));show (_,_)=_;rw[Z8 hk (by decide)];rfl
   ·subst hy;exact Ok.f rfl (Ok.d rfl)
  ·subst he;generalize GL KB W v 64=u;refine Ok.g (Ok.b (R:=λe=>e=l8 (v.add u)) ?_ λe he=>Ok.g (Ok.d he));refine Ok.s 8 (by decide) (λk y=>y=((l8 (v.add u)).take k,(k:Int))) rfl (λk y hy hk=>?_) λy hy=>?_
   ·subst hy;have:k=0\/k=1\/k=2\/k=3\/k=4\/k=5\/k=6\/k=7:=by omega
    rcases this with rfl|rfl|rfl|rfl|rfl|rfl|rfl|rfl
    ·exact Ok.t rfl (Ok.r rfl (x:=iv v.a) rfl (Ok.k rfl (Ok.r rfl (x:=iv u.a) rfl (Ok.c (Wu _ _) λr q=>Ok.app (by grind) (Ok.g (Ok.g (Ok.d (by subst q;rfl))))))))
    ·exact Ok.t rfl (Ok.r rfl (x:=iv v.b) rfl (Ok.k rfl (Ok.r rfl (x:=iv u.b) rfl (Ok.c (Wu _ _) λr q=>Ok.app (by grind) (Ok.g (Ok.g (Ok.d (by subst q;rfl))))))))
    ·exact Ok.t rfl (Ok.r rfl (x:=iv v.c) rfl (Ok.k rfl (Ok.r rfl (x:=iv u.c) rfl (Ok.c (Wu _ _) λr q=>Ok.app (by grind) (Ok.g (Ok.g (Ok.d (by subst q;rfl))))))))
    ·exact Ok.t rfl (Ok.r rfl (x:=iv v.d) rfl (Ok.k rfl (Ok.r rfl (x:=iv u.d) rfl (Ok.c (Wu _ _) λr q=>Ok.app (by grind) (Ok.g (Ok.g (Ok.d (by subst q;rfl))))))))
    ·exact Ok.t rfl (Ok.r rfl (x:=iv v.e) rfl (Ok.k rfl (Ok.r rfl (x:=iv u.e) rfl (Ok.c (Wu _ _) λr q=>Ok.app (by grind) (Ok.g (Ok.g (Ok.d (by subst q;rfl))))))))
    ·exact Ok.t rfl (Ok.r rfl (x:=iv v.f) rfl (Ok.k rfl (Ok.r rfl (x:=iv u.f) rfl (Ok.c (Wu _ _) λr q=>Ok.app (by grind) (Ok.g (Ok.g (Ok.d (by subst q;rfl))))))))
    ·exact Ok.t rfl (Ok.r rfl (x:=iv v.g) rfl (Ok.k rfl (Ok.r rfl (x:=iv u.g) rfl (Ok.c (Wu _ _) λr q=>Ok.app (by grind) (Ok.g (Ok.g (Ok.d (by subst q;rfl))))))))
    ·exact Ok.t rfl (Ok.r rfl (x:=iv v.h) rfl (Ok.k rfl (Ok.r rfl (x:=iv u.h) rfl (Ok.c (Wu _ _) λr q=>Ok.app (by grind) (Ok.g (Ok.g (Ok.d (by subst q;rfl))))))))
   ·subst hy;exact Ok.f rfl (Ok.d rfl)
def cF(t:R6):Prop:=t.gj=l8 vS/\t.fK=J0
theorem gF(t:R6)(ht:cF t)(s:ze)(hs:s.size<=1000000)(h6:s.size % 64=0)(v:V8):Qj (Qq3 t (l8 v) s) (λr=>r=l8 (A8 s v)):=by
 unfold Qq3;refine Qj.fn ?_;unfold Qe0;refine Ok.b (R:=λe=>e=l8 (A8 s v)) ?_ λe he=>Ok.d he;refine Ok.s (s.size / 64) (by omega) (λk y=>y=(l8 (Ht s v k),((64 * k:Nat):Int))) rfl (λk y hy hk=>?_) λy hy=>?_
 ·subst hy;have e1:Q0 (((64 * k:Nat):Int)+64)=((64 * k+64:Nat):Int):=by grind [Z2]
  simp only[e1,zP];have ez:(s.extract (64 * k) (64 * k+64)).size=64:=by rw[ByteArray.size_extract];omega
  exact Ok.t (by simp;omega) (Ok.k (by simp;omega) (Ok.c (kO t ht.2 _ _ ez) λr hr=>Ok.d (by rw[hr];rfl)))
 grind [Ok.f,Z2,Ok.d,l8,Ht,A8]
theorem uS(n:Nat)(x:Int):List.replicate n x++[x]=List.replicate (n+1) x:=by
 rw[List.replicate_succ']
theorem Qz7(k:Nat)(n:Int)(h0:0<=n)(h:n < 9223372036854775808)(hk:k<=100):Qj (iC (k:Int) n) (λr=>r=strOfNums (Ju k n)):=by
 unfold iC;refine Qj.fn ?_;unfold g83;refine Ok.b (R:=λe=>e=strOfNums (Ju k n)) ?_ λe he=>Ok.d he;refine Ok.s k (by omega) (λi y=>∃m l,y=(m,strOfNums l,(i:Int))/\0<=m/\m < 9223372036854775808/\l.length=i/\Ju k n=Ju (k - i) m++l) ⟨n,[],rfl,h0,h,rfl,by simp⟩ (λi y hy hi=>?_) λy hy=>?_
 ·obtain⟨m,l,rfl,h1,h2,hl,hb⟩:=hy;have em:Int.tmod m 256=m % 256:=(by grind);have ed:Int.tdiv m 256=m / 256:=(by grind);refine Ok.t (by simp;omega) (Ok.k ?_ (Ok.d ⟨m / 256,m % 256 :: l,?_,by omega,by omega,by simp[hl],?_⟩))
  ·simp only[strOfNums_size,zI];grind
  ·show (Q0 (Int.tdiv m 256),strOfNums [Qm (Int.tmod m 256)]++strOfNums l,Q0 ((i:Int)+1))=_;rw[ed,em,Z2 (by omega) (by omega),Z8 hi (by omega),B8,<-T0,show m % 256 % 256=m % 256 by omega];rfl
  ·rw[hb,show k - i=(k - (i+1))+1 by omega,Ju];simp
 ·obtain⟨m,l,rfl,h1,h2,hl,hb⟩:=hy;refine Ok.f (by simp) (Ok.d ?_);rw[hb,Nat.sub_self];rfl
theorem SO(s:ze)(n:Nat)(hs:s.size=n % 64)(hn:n<=1000000):Qj (Qq2 s (n:Int)) (λr=>r=s++pad n):=by
 unfold Qq2;refine Qj.fn ?_;unfold Qmv;have z1:(bs [128]).size=1:=rfl;have z0:(bs [0]).size=1:=rfl;have zr:∀j:Nat,((s++bs [128])++strOfNums (List.replicate j 0)).size=n % 64+1+j:=(by grind [ByteArray.size_append,strOfNums_size,List.length_replicate]);refine Ok.k (by grind) (Ok.b (R:=λe=>e=(s++bs [128])++strOfNums (List.replicate ((119 - n % 64) % 64) 0)) ?_ λe he=>?_)
 ·refine Ok.s ((119 - n % 64) % 64) (by omega) (λk y=>y=(s++bs [128])++strOfNums (List.replicate k 0)) (ByteArray.append_empty).symm (λk y hy hk=>?_) λy hy=>?_
  ·grind [Int.tmod_eq_emod_of_nonneg,Ok.t,Ok.k,Ok.d,ByteArray.append_assoc,T0,uS,Int.tmod,bs,strOfNums,List.replicate]
  ·subst hy;have em:Int.tmod (((s++bs [128])++strOfNums (List.replicate ((119 - n % 64) % 64) 0)).size:Int) 64=56:=by grind
   exact Ok.f (by rw[em];rfl) (Ok.d rfl)
 ·subst he;have e8:Q0 ((8:Int) * (n:Int))=8 * (n:Int):=Z2 (by omega) (by omega);refine Ok.b (R:=λe=>e=((s++bs [128])++strOfNums (List.replicate ((119 - n % 64) % 64) 0),strOfNums (Ju 8 (8 * (n:Int))))) ?_ λe he=>?_
  ·refine Ok.s 8 (by decide) (λi y=>∃m l,y=(m,strOfNums l,(i:Int))/\0<=m/\m < 9223372036854775808/\l.length=i/\Ju 8 (8 * (n:Int))=Ju (8 - i) m++l) ⟨8 * (n:Int),[],by rw[e8];rfl,by omega,by omega,rfl,by simp⟩ (λi y hy hi=>?_) λy hy=>?_
   ·obtain⟨m,l,rfl,h1,h2,hl,hb⟩:=hy;have em:Int.tmod m 256=m % 256:=(by grind);have ed:Int.tdiv m 256=m / 256:=(by grind);refine Ok.t (by simp;omega) (Ok.k ?_ (Ok.d ⟨m / 256,m % 256 :: l,?_,by omega,by omega,by simp[hl],?_⟩))
    ·simp only[strOfNums_size,zI];grind
    ·show (Q0 (Int.tdiv m 256),strOfNums [Qm (Int.tmod m 256)]++strOfNums l,Q0 ((i:Int)+1))=_;rw[ed,em,Z2 (by omega) (by omega),Z8 hi (by omega),B8,<-T0,show m % 256 % 256=m % 256 by omega];rfl
    ·rw[hb,show 8 - i=(8 - (i+1))+1 by omega,Ju];simp
   ·obtain⟨m,l,rfl,h1,h2,hl,hb⟩:=hy;refine Ok.f (by simp) (Ok.d ?_);rw[hb,Nat.sub_self];rfl
  grind [Ok.k,strOfNums_size,Hk,Ok.d,ByteArray.append_assoc,pad]
theorem Qyj(v:V8){k:Nat}{x:Int}(h:(l8 v)[k]?=some x):0<=x/\x < 4294967296:=by
 have:=zV h;simp only[l8,zR,zZ,or_false] at this;rcases this with rfl|rfl|rfl|rfl|rfl|rfl|rfl|rfl<;>exact Yu _
theorem Vl(v:V8):Qj (Qq4 (l8 v)) (λr=>r=Vx v):=by
 unfold Qq4;refine Qj.fn ?_;unfold Qe1 Vx;have hl:(l8 v).length=8:=rfl;have hx:=@Qyj v;generalize l8 v=L at hl hx ⊢;refine Ok.b (R:=λe=>e=strOfNums (L.flatMap (Ju 4))) ?_ λe he=>Ok.d he;refine Ok.s 8 (by decide) (λk y=>y=(strOfNums ((L.take k).flatMap (Ju 4)),(k:Int))) rfl (λk y hy hk=>?_) λy hy=>?_
 ·subst hy;obtain⟨x,h1,h2⟩:=L9 (l:=L) (k:=k) (by omega);have hr:=hx h2;have zk:((L.take k).flatMap (Ju 4)).length=4 * k:=by
   rw[List.length_flatMap];simp only[Hk,List.map_const',List.sum_replicate_nat,qa,hl];omega
  refine Ok.t (by grind [Jn]) (Ok.r (by simp) h1 (Ok.c (show Qj _ _ from Qz7 4 x hr.1 (by omega) (by decide)) λr hr=>?_));grind [Ok.k,strOfNums_size,Hk,Ok.d,Z8,T0,List.take_add_one,Q0]
 grind [Ok.f,Jn,Ok.d,List.take_of_length_le,strOfNums]
theorem Qz5(t:R6)(ht:cF t)(s:ze)(hs:s.size<=500000):Qj (s82 t s) (λr=>r=OH s vS):=by
 unfold s82;refine Qj.fn ?_;unfold g82;have e1:Int.tdiv (s.size:Int) 64=((s.size / 64:Nat):Int):=by grind
 have e2:Q0 ((Q0 (Int.tdiv (s.size:Int) 64)) * 64)=((64 * (s.size / 64):Nat):Int):=by
  grind [Z2]
 simp only[e2,zP];have hz:(s.extract (64 * (s.size / 64)) s.size).size=s.size % 64:=by rw[ByteArray.size_extract];omega
 have h0:(s.extract 0 (64 * (s.size / 64))).size=64 * (s.size / 64):=by rw[ByteArray.size_extract];omega
 have hm:s.extract 0 (64 * (s.size / 64))++(s.extract (64 * (s.size / 64)) s.size++pad s.size)=s++pad s.size:=by
  rw[<-ByteArray.append_assoc,ByteArray.extract_append_extract,Nat.min_eq_left (by omega),Nat.max_eq_right (by omega),ByteArray.extract_zero_size]
 have hp:=NO s.size
 have hT:(s++pad s.size).size % 64=0:=by grind
 have hT2:(s++pad s.size).size<=1000000:=by grind
 refine Ok.k (by simp;omega) (Ok.k (by simp;omega) (Ok.c (SO _ s.size hz (by omega)) λr hr=>?_));subst hr;refine Ok.k (by grind) ?_;rw[hm,ht.1];exact Ok.c (gF t ht _ hT2 hT vS) λr hr=>by subst hr;exact Ok.c (Vl _) λr hr=>Ok.d hr
end Go.Proofs.YtjdieimefebnfaaGreatDoor
