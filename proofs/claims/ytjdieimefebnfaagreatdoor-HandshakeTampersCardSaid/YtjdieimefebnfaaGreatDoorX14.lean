/- Part X14. -/
import Derived.Test.YtjdieimefebnfaaGreatDoorX13
set_option linter.all false
set_option maxRecDepth 100000
namespace Go.Proofs.YtjdieimefebnfaaGreatDoor
open Go Go.EV
theorem JL(x:Zy)(c:Int)(k:Nat)(h0:0 < k)(hk:k < 32)(h1:U1 .u64 (Z4 c) 31=((32 - k:Nat):Int)):Qy (Ax (iv x) c) (λr=>r=iv (x.rotateRight k)):=by
 have e2:Z4 ((32:Int) - ((32 - k:Nat):Int))=(k:Int):=by show IntKind.u64.wrap _=_;rw[IntKind.wrap_u64];omega
 refine Ok.k (by rw[h1];simp) (Ok.k (by grind) (Ok.d ?_));grind [Qqm,Zl,E0,iv,U1,Z4,Z5]
theorem Ya{n:Int}(h0:0<=n)(h:n < 64):(bif decide (0<=n)&&decide (n < ((64:Nat):Int)) then some () else none)=some ():=by
 grind
theorem Rr{l:List Int}(h:l.length=64){n:Int}(h0:0<=n)(h1:n < 64):∃x,l[0+n.toNat]?=some x:=⟨l[0+n.toNat]'(by omega),(by grind)⟩
theorem WQ:J2.length=64:=by kernel_rfl
def KB:List Zy:=J2.map (BitVec.ofInt 32)
theorem bF:J2.take 64=KB.map iv:=by kernel_rfl
def w8(v:V8):W8:=(iv v.a,iv v.b,iv v.c,iv v.d,iv v.e,iv v.f,iv v.g,iv v.h)
def l8(v:V8):List Int:=[iv v.a,iv v.b,iv v.c,iv v.d,iv v.e,iv v.f,iv v.g,iv v.h]
def bw(s:ze)(k:Nat):Zy:=BitVec.ofNat 32 (num (Q2 (s.extract (4 * k) (4 * k+4)))).toNat
theorem Qw1{x:ze}(hx:x.size=4):∃c0 c1 c2 c3:Nat,(c0 < 256/\c1 < 256/\c2 < 256/\c3 < 256)/\Q2 x=[(c0:Int),(c1:Int),(c2:Int),(c3:Int)]/\QQ x 0=(c0:Int)/\QQ x 1=(c1:Int)/\QQ x 2=(c2:Int)/\QQ x 3=(c3:Int):=by
 have hl:x.data.toList.length=4:=hx;match h:x.data.toList,hl with
 | [a,b,c,d],_=>
  have hd:x.data=#[a,b,c,d]:=by grind
  refine⟨a.toNat,b.toNat,c.toNat,d.toNat,⟨a.toNat_lt,b.toNat_lt,c.toNat_lt,d.toNat_lt⟩,by grind [Q2],?_,?_,?_,?_⟩<;>(simp_all [QQ])
theorem oY{x:ze}(hx:x.size=4):Zl .u32 (Zl .u32 (Zl .u32 (E0 .u32 (O2 (QQ x 0)) 24) (E0 .u32 (O2 (QQ x 1)) 16)) (E0 .u32 (O2 (QQ x 2)) 8)) (O2 (QQ x 3))=iv (BitVec.ofNat 32 (num (Q2 x)).toNat):=by
 obtain⟨c0,c1,c2,c3,⟨h0,h1,h2,h3⟩,e,e0,e1,e2,e3⟩:=Qw1 hx;have w:∀c:Nat,c < 256->O2 (c:Int)=iv (BitVec.ofNat 32 c):=λc hc=>by
  rw[ivN];show IntKind.u32.wrap _=_;rw[BF]
 have en:(num (Q2 x)).toNat=((c0 * 256+c1) * 256+c2) * 256+c3:=by
  grind [num]
 rw[e0,e1,e2,e3,w c0 h0,w c1 h1,w c2 h2,w c3 h3,en,show (24:Int)=((24:Nat):Int) from rfl,show (16:Int)=((16:Nat):Int) from rfl,show (8:Int)=((8:Nat):Int) from rfl,Fu _ 24 (by decide),Fu _ 16 (by decide),Fu _ 8 (by decide),Ci,Ci,Ci];congr 1;refine BitVec.eq_of_toNat_eq ?_;simp only[BitVec.toNat_or,BitVec.toNat_shiftLeft,BitVec.toNat_ofNat,Nat.shiftLeft_eq];rw[Nat.mod_eq_of_lt (show c0 < 2 ^ 32 by omega),Nat.mod_eq_of_lt (show c1 < 2 ^ 32 by omega),Nat.mod_eq_of_lt (show c2 < 2 ^ 32 by omega),Nat.mod_eq_of_lt (show c3 < 2 ^ 32 by omega),Nat.mod_eq_of_lt (show c0 * 2 ^ 24 < 2 ^ 32 by omega),Nat.mod_eq_of_lt (show c1 * 2 ^ 16 < 2 ^ 32 by omega),Nat.mod_eq_of_lt (show c2 * 2 ^ 8 < 2 ^ 32 by omega),Nat.mod_eq_of_lt (show ((c0 * 256+c1) * 256+c2) * 256+c3 < 2 ^ 32 by omega)];have k1:=Nat.two_pow_add_eq_or_of_lt (i:=24) (b:=c1 * 2 ^ 16) (by omega) c0;have k2:=Nat.two_pow_add_eq_or_of_lt (i:=16) (b:=c2 * 2 ^ 8) (by omega) (c0 * 256+c1);have k3:=Nat.two_pow_add_eq_or_of_lt (i:=8) (b:=c3) (by omega) ((c0 * 256+c1) * 256+c2);rw[wX c0,<-k1,show 2 ^ 24 * c0+c1 * 2 ^ 16=2 ^ 16 * (c0 * 256+c1) by omega,<-k2,show 2 ^ 16 * (c0 * 256+c1)+c2 * 2 ^ 8=2 ^ 8 * ((c0 * 256+c1) * 256+c2) by omega,<-k3];omega
theorem Qzy(v:V8)(tl:ze)(ct:Int)(s rest:ze)(hs:s.size=64):Ok (Bm (w8 v) tl ct s rest) (λr=>r=w8 (pQ KB (bw s) v)):=by
 unfold Bm;refine Ok.o rfl (Ok.b (R:=λe=>e.length=64/\e.take 64=(M2 (bw s) 64).map iv) ?_ λe he=>?_)
 ·refine Ok.s 64 (by decide) (λk y=>y.1.length=64/\y.1.take k=(M2 (bw s) k).map iv/\y.2=(k:Int)) ⟨by simp,rfl,rfl⟩ (λk y hy hk=>?_) λy hy=>?_
  ·obtain⟨l,i⟩:=y;obtain⟨hl,ht,rfl⟩:l.length=64/\l.take k=(M2 (bw s) k).map iv/\i=(k:Int):=hy;have fin:∀w:Zy,w=(if k < 16 then bw s k else nxt (M2 (bw s) k) k)->(l.set k (iv w)).length=64/\(l.set k (iv w)).take (k+1)=(M2 (bw s) (k+1)).map iv/\Q0 ((k:Int)+1)=((k+1:Nat):Int):=(by grind [List.length_set,Nx,Y0,M2]);refine Ok.t (by simp;omega) (Ok.e (λhc=>?_) λhc=>?_)
   ·have hc:(k:Int) < 16:=by simpa using hc
    have e1:Q0 ((4:Int) * (k:Int))=((4 * k:Nat):Int):=by grind [Z2]
    have e2:Q0 (((4 * k:Nat):Int)+4)=((4 * k+4:Nat):Int):=by grind [Z2]
    have ez:(s.extract (4 * k) (4 * k+4)).size=4:=by rw[ByteArray.size_extract];omega
    obtain⟨x,hx⟩:=Rr hl (n:=(k:Int)) (by omega) (by omega);simp only[e1,e2,zW,ez];refine Ok.k ?_ (Ok.k rfl (Ok.k rfl (Ok.k rfl (Ok.k rfl (Ok.o (r:=()) (Ya (by omega) (by omega)) (Ok.r rfl hx (Ok.re (Ok.d ?_))))))))
    ·simp;omega
    ·have:=fin (bw s k) (by rw[if_pos (by omega)]);simp_all [oY,we,iv,bw]
   ·have hc:16<=(k:Int):=by simpa using hc
    have e15:Q0 ((k:Int) - 15)=((k - 15:Nat):Int):=by grind [Z2]
    have e2:Q0 ((k:Int) - 2)=((k - 2:Nat):Int):=by grind [Z2]
    have e16:Q0 ((k:Int) - 16)=((k - 16:Nat):Int):=by grind [Z2]
    have e7:Q0 ((k:Int) - 7)=((k - 7:Nat):Int):=by grind [Z2]
    have look:∀n:Nat,n < k->∃x,l[0+(n:Int).toNat]?=some x/\x=iv (BG (M2 (bw s) k) n):=(by grind [Rr,CL]);obtain⟨x1,hx1,hv1⟩:=look (k - 15) (by omega);obtain⟨x2,hx2,hv2⟩:=look (k - 2) (by omega);obtain⟨x3,hx3,hv3⟩:=look (k - 16) (by omega);obtain⟨x4,hx4,hv4⟩:=look (k - 7) (by omega);obtain⟨x5,hx5⟩:=Rr hl (n:=(k:Int)) (by omega) (by omega);simp only[e15,e2,e16,e7];refine Ok.o (r:=()) (Ya (by omega) (by omega)) (Ok.r rfl hx1 ?_);refine Ok.o (r:=()) (Ya (by omega) (by omega)) (Ok.r rfl hx2 ?_);refine Ok.o (r:=()) (Ya (by omega) (by omega)) (Ok.r rfl hx3 ?_);refine Ok.o (r:=()) (Ya (by omega) (by omega)) (Ok.r rfl hx4 ?_);subst hv1;subst hv2;subst hv3;subst hv4;refine Ok.c (JL _ _ 7 (by decide) (by decide) (by kernel_rfl)) λ_ q1=>Ok.c (JL _ _ 18 (by decide) (by decide) (by kernel_rfl)) λ_ q2=>Ok.c (JL _ _ 17 (by decide) (by decide) (by kernel_rfl)) λ_ q3=>Ok.c (JL _ _ 19 (by decide) (by decide) (by kernel_rfl)) λ_ q4=>?_;subst q1;subst q2;subst q3;subst q4;refine Ok.o (r:=()) (Ya (by omega) (by omega)) (Ok.r rfl hx5 (Ok.re (Ok.d ?_)));have:=fin (nxt (M2 (bw s) k) k) (by rw[if_neg (by omega)]);show (l.set (0+(k:Int).toNat) _).length=64/\(l.set (0+(k:Int).toNat) _).take (k+1)=_/\_;rw[show (3:Int)=((3:Nat):Int) from rfl,show (10:Int)=((10:Nat):Int) from rfl,PR _ 3 (by decide),PR _ 10 (by decide)];simp only[PQ,BA,zW,we];exact this
  ·obtain⟨l,i⟩:=y;obtain⟨hl,ht,rfl⟩:l.length=64/\l.take 64=(M2 (bw s) 64).map iv/\i=((64:Nat):Int):=hy;exact Ok.f rfl (Ok.d ⟨hl,ht⟩)
 ·obtain⟨he,ht⟩:=he;refine Ok.b (R:=λe2=>e2=w8 (GR KB (M2 (bw s) 64) v 64)) ?_ λe2 q=>Ok.d ?_
  ·refine Ok.s 64 (by decide) (λk y=>y=(iv (GR KB (M2 (bw s) 64) v k).a,iv (GR KB (M2 (bw s) 64) v k).b,iv (GR KB (M2 (bw s) 64) v k).c,iv (GR KB (M2 (bw s) 64) v k).d,iv (GR KB (M2 (bw s) 64) v k).e,iv (GR KB (M2 (bw s) 64) v k).f,iv (GR KB (M2 (bw s) 64) v k).g,iv (GR KB (M2 (bw s) 64) v k).h,(k:Int))) rfl (λk y hy hk=>?_) λy hy=>?_
   ·subst hy;rw[GR];generalize GR KB (M2 (bw s) 64) v k=u;obtain⟨x1,hx1⟩:=Rr WQ (n:=(k:Int)) (by omega) (by omega);obtain⟨x2,hx2⟩:=Rr he (n:=(k:Int)) (by omega) (by omega);obtain rfl:=CL bF hk (by simpa using hx1);obtain rfl:=CL ht hk (by simpa using hx2);refine Ok.t (by grind) ?_;refine Ok.c (JL u.e _ 6 (by decide) (by decide) (by kernel_rfl)) λ_ q1=>Ok.c (JL u.e _ 11 (by decide) (by decide) (by kernel_rfl)) λ_ q2=>Ok.c (JL u.e _ 25 (by decide) (by decide) (by kernel_rfl)) λ_ q3=>?_;refine Ok.o (r:=()) (Ya (n:=(k:Int)) (by omega) (by omega)) (Ok.r rfl hx1 ?_);refine Ok.o (r:=()) (Ya (n:=(k:Int)) (by omega) (by omega)) (Ok.r rfl hx2 ?_);refine Ok.c (JL u.a _ 2 (by decide) (by decide) (by kernel_rfl)) λ_ q4=>Ok.c (JL u.a _ 13 (by decide) (by decide) (by kernel_rfl)) λ_ q5=>Ok.c (JL u.a _ 22 (by decide) (by decide) (by kernel_rfl)) λ_ q6=>Ok.d ?_;subst q1;subst q2;subst q3;subst q4;subst q5;subst q6;show (_,_)=_;simp only[Qzi,PQ,Quy,BA];rw[Y0 hk (by decide)];rfl
   ·subst hy;exact Ok.f rfl (Ok.d rfl)
  ·subst q;show (_,_)=_;simp only[w8,BA];rfl
theorem Ex(s:ze)(a b c d:Nat):(s.extract a b).extract c d=s.extract (a+c) (min (a+d) b):=by
 ext1;simp
theorem Qjd{s:ze}{a b c d:Nat}(h1:a=c)(h2:b=d):s.extract a b=s.extract c d:=by rw[h1,h2]
def HQ(s:ze)(v:V8):Nat->V8
 | 0=>v
 | n+1=>pQ KB (bw (s.extract (64 * n) (64 * n+64))) (HQ s v n)
def A8(s:ze)(v:V8):V8:=HQ s v (s.size / 64)
theorem Iw{s t:ze}{v:V8}:∀n,(∀i,i < n->s.extract (64 * i) (64 * i+64)=t.extract (64 * i) (64 * i+64))->HQ s v n=HQ t v n
 | 0,_=>rfl
 | n+1,h=>by rw[HQ,HQ,h n (by omega),Iw n λi hi=>h i (by omega)]
theorem Rh(s:ze)(v:V8)(n:Nat):∀p,64 * (n+p)<=s.size->HQ s v (n+p)=HQ (s.extract (64 * n) s.size) (HQ s v n) p
 | 0,_=>rfl
 | p+1,h=>by
  rw[<-Nat.add_assoc,HQ,HQ,Rh s v n p (by omega),Ex,show 64 * n+64 * p=64 * (n+p) by omega,show min (64 * n+(64 * p+64)) s.size=64 * (n+p)+64 by omega]
theorem Ru{m s t:ze}{v:V8}(ht:t=m.extract (64 * (m.size / 64)) m.size):A8 (t++s) (A8 m v)=A8 (m++s) v:=by
 have hz:t.size=m.size - 64 * (m.size / 64):=by simp_all
 have hm:m=m.extract 0 (64 * (m.size / 64))++t:=by
  grind [ByteArray.extract_append_extract,Nat.min_eq_left,Nat.max_eq_right,ByteArray.extract_zero_size]
 have hn:(m++s).size / 64=m.size / 64+(t++s).size / 64:=by grind
 have e0:(m.extract 0 (64 * (m.size / 64))).size=64 * (m.size / 64):=by grind
 have e1:(m++s).extract (64 * (m.size / 64)) (m++s).size=t++s:=by
  grind [ByteArray.append_assoc,ByteArray.extract_append_eq_right,ByteArray.size_append]
 unfold A8;rw[hn,Rh _ _ _ _ (by rw[<-hn];omega),e1];congr 1;refine Iw _ λi hi=>?_;have:(m++s).extract 0 m.size=m:=ByteArray.extract_append_eq_left rfl;grind [Ex]
theorem SL{tl:ze}{ct:Int}{x:W8×ze}(h:x.2.size < 64):ZJ tl ct x=some (.inr x.1):=by
 grind [decide_eq_false,ZJ]
theorem Vs{tl:ze}{ct:Int}{x:W8×ze}{r:W8}(h:64<=x.2.size)(hr:(Bm x.1 tl ct (x.2.extract 0 64) x.2).run=some r):ZJ tl ct x=some (.inl (r,x.2.extract 64 x.2.size)):=by
 grind [decide_eq_true,ZJ]
theorem nU(v:V8)(tl:ze)(ct:Int)(s:ze)(hs:s.size<=1000000):Vc (w8 v) tl ct s=some (w8 (A8 s v)):=by
 have step:∀x:W8×ze,(∃k,64 * k<=s.size/\x.1=w8 (HQ s v k)/\x.2=s.extract (64 * k) s.size)->∃r,ZJ tl ct x=some r/\(match r with|.inl y=>(∃k,64 * k<=s.size/\y.1=w8 (HQ s v k)/\y.2=s.extract (64 * k) s.size)/\y.2.size < x.2.size|.inr e=>e=w8 (A8 s v)):=by
  rintro x ⟨k,hk,hx1,hx2⟩;have hz:x.2.size=s.size - 64 * k:=by simp_all
  rcases qa x.2.size 64 with hlt|hge
  ·refine⟨.inr x.1,SL hlt,?_⟩;grind [A8]
  ·obtain⟨r,h1,h2⟩:=Qzy (HQ s v k) tl ct (x.2.extract 0 64) x.2 (by rw[ByteArray.size_extract];omega);rw[<-hx1] at h1;have e:x.2.extract 0 64=s.extract (64 * k) (64 * k+64):=by grind [Ex]
   have e2:x.2.extract 64 x.2.size=s.extract (64 * (k+1)) s.size:=by rw[hz,hx2,Ex];congr 1;omega
   refine⟨.inl (r,x.2.extract 64 x.2.size),Vs hge h1,⟨k+1,by omega,?_,e2⟩,?_⟩
   ·grind [HQ]
   grind [ByteArray.size_extract]
 obtain⟨e,h,h2⟩:=Il (f:=ZJ tl ct) (λx=>∃k,64 * k<=s.size/\x.1=w8 (HQ s v k)/\x.2=s.extract (64 * k) s.size) (λx=>x.2.size) (λe=>e=w8 (A8 s v)) (λx hx=>by obtain⟨r,h1,h2⟩:=step x hx;grind) Yv (w8 v,s) ⟨0,Nat.zero_le _,rfl,by simp_all⟩ (G3 (by grind));grind [Vc]
attribute [irreducible] A8
attribute [local irreducible] Vc
theorem kP(s:ze)(v:V8)(tl:ze)(ct:Int)(hs:s.size<=1000000):Qy (Fi s ⟨⟨⟨iv v.a,iv v.b,iv v.c,iv v.d,iv v.e,iv v.f,iv v.g,iv v.h⟩,tl,ct⟩⟩) (λr=>r=w8 (A8 s v)):=by
 unfold Fi;show Ok (eG s _) _;refine Ok.o rfl (Ok.c (R:=λ_=>True) ⟨(),rfl,trivial⟩ λ_ _=>Ok.g (Ok.Ou (r:=w8 (A8 s v)) ?_ (Ok.d ?_)))
 ·exact nU v tl ct s hs
 grind
def Rg(m:ze)(v0:V8):JC:=⟨⟨⟨iv (A8 m v0).a,iv (A8 m v0).b,iv (A8 m v0).c,iv (A8 m v0).d,iv (A8 m v0).e,iv (A8 m v0).f,iv (A8 m v0).g,iv (A8 m v0).h⟩,m.extract (64 * (m.size / 64)) m.size,(m.size:Nat)⟩⟩
theorem Qzw(s m:ze)(v0:V8)(hs:s.size+m.size<=500000):Qy (tS s (Rg m v0)) (λr=>r=(iv (A8 (m++s) v0).a,iv (A8 (m++s) v0).b,iv (A8 (m++s) v0).c,iv (A8 (m++s) v0).d,iv (A8 (m++s) v0).e,iv (A8 (m++s) v0).f,iv (A8 (m++s) v0).g,iv (A8 (m++s) v0).h,(m++s).extract (64 * ((m++s).size / 64)) (m++s).size,(((m++s).size:Nat):Int))):=by
 unfold tS;show Ok (Qyc s (Rg m v0)) _;have ht:(m.extract (64 * (m.size / 64)) m.size).size=m.size - 64 * (m.size / 64):=by simp_all
 have hz:(m.extract (64 * (m.size / 64)) m.size++s).size=m.size - 64 * (m.size / 64)+s.size:=by grind
 have hc:=Ru (m:=m) (s:=s) (v:=v0) rfl;have hm:m.extract 0 (64 * (m.size / 64))++m.extract (64 * (m.size / 64)) m.size=m:=by
  grind [ByteArray.extract_append_extract,Nat.min_eq_left,Nat.max_eq_right,ByteArray.extract_zero_size]
 have hx:(m.extract (64 * (m.size / 64)) m.size++s).extract (64 * ((m.extract (64 * (m.size / 64)) m.size++s).size / 64)) (m.extract (64 * (m.size / 64)) m.size++s).size=(m++s).extract (64 * ((m++s).size / 64)) (m++s).size:=by
  have e0:(m.extract 0 (64 * (m.size / 64))).size=64 * (m.size / 64):=by grind
  have hw:(m++s).extract (64 * (m.size / 64)) (m++s).size=m.extract (64 * (m.size / 64)) m.size++s:=by
   grind [ByteArray.append_assoc,ByteArray.extract_append_eq_right,ByteArray.size_append]
  grind [Ex,Qjd,ByteArray.size_append]
 generalize hT:m.extract (64 * (m.size / 64)) m.size=t at ht hz hc hx;have e1:Int.tdiv ((t++s).size:Int) 64=(((t++s).size / 64:Nat):Int):=by grind
 have e2:Q0 ((Q0 (Int.tdiv ((t++s).size:Int) 64)) * 64)=((64 * ((t++s).size / 64):Nat):Int):=by
  grind [Z2]
 unfold Rg Qyc;simp only[hT];refine Ok.o rfl (Ok.k (by grind) (Ok.o rfl (Ok.c (kP (t++s) (A8 m v0) t _ (by omega)) λr hr=>Ok.k ?_ ?_)))
 ·rw[e2];simp;omega
 ·rw[hc] at hr;subst hr;refine Ok.c (R:=λr=>r=(t++s).extract (64 * ((t++s).size / 64)) (t++s).size) ?_ λr hr=>Ok.d ?_
  ·rw[e2,zW];exact Ok.c (R:=λ_=>True) (show Ok (dU _) _ from Ok.k (by rw[ByteArray.size_extract];grind) (Ok.d trivial)) λ_ _=>Ok.d rfl
  ·subst hr;rw[hx];show (_,_,_,_,_,_,_,_,_,Q0 (((m.size:Nat):Int)+(s.size:Int)))=_;rw[Z2 (by omega) (by omega),ByteArray.size_append];generalize A8 (m++s) v0=u;rfl
def pad(n:Nat):ze:=bs [128]++(strOfNums (List.replicate ((119 - n % 64) % 64) 0)++strOfNums (Jd 8 (8 * (n:Int))))
def Vh(v:V8):ze:=strOfNums ((l8 v).flatMap (Jd 4))
def OW(m:ze)(v:V8):ze:=Vh (A8 (m++pad m.size) v)
theorem NI(n:Nat):(pad n).size=9+(119 - n % 64) % 64:=by
 unfold pad;rw[ByteArray.size_append,ByteArray.size_append,strOfNums_size,strOfNums_size,qn,Hm];show 1+_=_;omega
theorem Vu(v:V8):(Vh v).size=32:=by
 unfold Vh l8;rw[strOfNums_size];simp[List.flatMap_cons,Hm]
theorem Uc(m:ze)(v:V8):(OW m v).size=32:=Vu _
theorem aW(v:Int)(k:Nat)(h:k<=64):Z5 .u64 v (k:Int)=v / 2 ^ k:=by
 show v.fdiv (2 ^ (min (k:Int).toNat 64))=_;rw[zW,Nat.min_eq_left h,Int.fdiv_eq_ediv_of_nonneg _ (Int.pow_nonneg (by decide))]
theorem aH(v:Int)(k:Nat)(h:k<=32):Z5 .u32 v (k:Int)=v / 2 ^ k:=by
 show v.fdiv (2 ^ (min (k:Int).toNat 32))=_;rw[zW,Nat.min_eq_left h,Int.fdiv_eq_ediv_of_nonneg _ (Int.pow_nonneg (by decide))]
theorem Qu4{n:Nat}(h:n<=1000000):((((((([Qk (Z5 .u64 (Z4 ((Z4 (n:Int)) * 8)) 56)]++[Qk (Z5 .u64 (Z4 ((Z4 (n:Int)) * 8)) 48)])++[Qk (Z5 .u64 (Z4 ((Z4 (n:Int)) * 8)) 40)])++[Qk (Z5 .u64 (Z4 ((Z4 (n:Int)) * 8)) 32)])++[Qk (Z5 .u64 (Z4 ((Z4 (n:Int)) * 8)) 24)])++[Qk (Z5 .u64 (Z4 ((Z4 (n:Int)) * 8)) 16)])++[Qk (Z5 .u64 (Z4 ((Z4 (n:Int)) * 8)) 8)])++[Qk (Z5 .u64 (Z4 ((Z4 (n:Int)) * 8)) 0)])=Jd 8 (8 * (n:Int)):=by
 have e1:Z4 (n:Int)=n:=by show IntKind.u64.wrap _=_;rw[IntKind.wrap_u64];omega
 have e2:Z4 ((n:Int) * 8)=8 * (n:Int):=by show IntKind.u64.wrap _=_;rw[IntKind.wrap_u64];omega
 rw[e1,e2];have f:∀k:Nat,k<=64->Qk (Z5 .u64 (8 * (n:Int)) (k:Int))=(8 * (n:Int)) / 2 ^ k % 256:=λk hk=>by rw[aW _ _ hk,C2]
 have g56:Qk (Z5 .u64 (8 * (n:Int)) 56)=_:=f 56 (by decide);have g48:Qk (Z5 .u64 (8 * (n:Int)) 48)=_:=f 48 (by decide);have g40:Qk (Z5 .u64 (8 * (n:Int)) 40)=_:=f 40 (by decide);have g32:Qk (Z5 .u64 (8 * (n:Int)) 32)=_:=f 32 (by decide);have g24:Qk (Z5 .u64 (8 * (n:Int)) 24)=_:=f 24 (by decide);have g16:Qk (Z5 .u64 (8 * (n:Int)) 16)=_:=f 16 (by decide);have g8:Qk (Z5 .u64 (8 * (n:Int)) 8)=_:=f 8 (by decide);have g0:Qk (Z5 .u64 (8 * (n:Int)) 0)=_:=f 0 (by decide);rw[g56,g48,g40,g32,g24,g16,g8,g0];simp only[Jd,List.nil_append,List.cons_append,List.cons.injEq,and_true];omega
theorem Qu5(w:Zy):[Qk (Z5 .u32 (iv w) 24),Qk (Z5 .u32 (iv w) 16),Qk (Z5 .u32 (iv w) 8),Qk (iv w)]=Jd 4 (iv w):=by
 have h:=Yh w;have f:∀k:Nat,k<=32->Qk (Z5 .u32 (iv w) (k:Int))=(iv w) / 2 ^ k % 256:=λk hk=>by rw[aH _ _ hk,C2]
 have g24:Qk (Z5 .u32 (iv w) 24)=_:=f 24 (by decide);have g16:Qk (Z5 .u32 (iv w) 16)=_:=f 16 (by decide);have g8:Qk (Z5 .u32 (iv w) 8)=_:=f 8 (by decide);rw[g24,g16,g8,C2];simp only[Jd,List.nil_append,List.cons_append,List.cons.injEq,and_true];omega
theorem Qzh(m:ze)(v0:V8)(hm:m.size<=500000):Qy (tR (Rg m v0)) (λr=>r=OW m v0):=by
 unfold tR;refine Qy.fn ?_;have ht:(m.extract (64 * (m.size / 64)) m.size).size=m.size % 64:=by rw[ByteArray.size_extract];omega
 have hz:(m.extract (64 * (m.size / 64)) m.size++pad m.size).size<=200:=by rw[ByteArray.size_append,ht,NI];omega
 have hc:=Ru (m:=m) (s:=pad m.size) (v:=v0) rfl;have hp:pad m.size=pad m.size:=rfl
 conv at hp=>rhs;unfold pad
 unfold Rg Qka;dsimp only;generalize m.extract (64 * (m.size / 64)) m.size=t at ht hz hc ⊢;generalize A8 m v0=u0 at hc ⊢;have e1:Int.tmod (Q0 ((119:Int) - (t.size:Int))) 64=(((119 - m.size % 64) % 64:Nat):Int):=by
  rw[ht,Z2 (by omega) (by omega),Int.tmod_eq_emod_of_nonneg (by omega)];omega
 have hq:(119 - m.size % 64) % 64 < 64:=by omega
 have z1:(bs [128]).size=1:=rfl;refine Ok.o rfl (Ok.k (by rw[z1];simp;omega) (Ok.o (r:=()) ?_ (Ok.o rfl ?_)))
 ·show (bif decide (0<=(Int.tmod (Q0 ((119:Int) - (t.size:Int))) 64))&&decide ((Int.tmod (Q0 ((119:Int) - (t.size:Int))) 64)<=(Int.tmod (Q0 ((119:Int) - (t.size:Int))) 64))&&decide (1 * (Int.tmod (Q0 ((119:Int) - (t.size:Int))) 64).toNat<=281474976710656)&&decide ((Int.tmod (Q0 ((119:Int) - (t.size:Int))) 64)<=9223372036854775807) then some () else none)=some ();rw[e1,wg (by omega),wg (by omega),wg (by omega),wg (by omega)];rfl
 rw[e1,zW];generalize (119 - m.size % 64) % 64=q at hp hq ⊢;have zq:(strOfNums (List.replicate q (0:Int))).size=q:=by rw[strOfNums_size,qn]
 have zz:∀{a:ze} {n:Nat} {x:Int},a.size<=n->n<=1000->decide (a.size+(strOfNums [x]).size<=9223372036854775807)=true:=λh1 h2=>by rw[strOfNums_size];simp;omega
 have z2:(t++bs [128]).size<=64:=by rw[ByteArray.size_append,z1];omega
 refine Ok.k (by rw[zq];simp only[zM];omega) ?_;have z3:((t++bs [128])++(strOfNums (List.replicate q (0:Int)))).size<=128:=by rw[ByteArray.size_append,zq];omega
 have hT:((t++bs [128])++(strOfNums (List.replicate q (0:Int))))++strOfNums (Jd 8 (8 * (m.size:Int)))=t++pad m.size:=by rw[hp,ByteArray.append_assoc,ByteArray.append_assoc]
 generalize (t++bs [128])++(strOfNums (List.replicate q (0:Int)))=a at z3 hT ⊢;rw[<-Qu4 (by omega)] at hT;simp only[T3,<-ByteArray.append_assoc] at hT;have up:∀{a:ze} {n:Nat} (x:Int),a.size<=n->(a++strOfNums [x]).size<=n+1:=λx h=>by rw[ByteArray.size_append,strOfNums_size];simpa using h
 have y1:=up (Qk (Z5 .u64 (Z4 ((Z4 (m.size:Int)) * 8)) 56)) z3;have y2:=up (Qk (Z5 .u64 (Z4 ((Z4 (m.size:Int)) * 8)) 48)) y1;have y3:=up (Qk (Z5 .u64 (Z4 ((Z4 (m.size:Int)) * 8)) 40)) y2;have y4:=up (Qk (Z5 .u64 (Z4 ((Z4 (m.size:Int)) * 8)) 32)) y3;have y5:=up (Qk (Z5 .u64 (Z4 ((Z4 (m.size:Int)) * 8)) 24)) y4;have y6:=up (Qk (Z5 .u64 (Z4 ((Z4 (m.size:Int)) * 8)) 16)) y5;have y7:=up (Qk (Z5 .u64 (Z4 ((Z4 (m.size:Int)) * 8)) 8)) y6;refine Ok.k (zz z3 (by decide)) (Ok.g (Ok.k (zz y1 (by decide)) (Ok.g (Ok.k (zz y2 (by decide)) (Ok.g (Ok.k (zz y3 (by decide)) (Ok.g (Ok.k (zz y4 (by decide)) (Ok.g (Ok.k (zz y5 (by decide)) (Ok.g (Ok.k (zz y6 (by decide)) (Ok.g (Ok.k (zz y7 (by decide)) (Ok.o rfl ?_)))))))))))))));rw[hT];refine Ok.c (kP (t++pad m.size) u0 t _ (by omega)) λr hr=>?_;rw[hc] at hr;subst hr;unfold OW Vh;generalize A8 (m++pad m.size) v0=u;refine Ok.g (Ok.b (R:=λe=>e=(l8 u).flatMap (Jd 4)) ?_ λe he=>Ok.o rfl (Ok.d (by rw[he])));refine Ok.s 8 (by decide) (λk y=>y.1=((l8 u).take k).flatMap (Jd 4)/\y.2=(k:Int)) ⟨rfl,rfl⟩ (λk y hy hk=>?_) λy hy=>?_
 ·obtain⟨l,i⟩:=y;obtain⟨hl,rfl⟩:l=((l8 u).take k).flatMap (Jd 4)/\i=(k:Int):=hy;have hlen:l.length=4 * k:=by
   rw[hl,List.length_flatMap];simp only[Hm,List.map_const',List.sum_replicate_nat,qh,l8,wV,List.length_nil];omega
  refine Ok.t (by simp;omega) ?_;have fin:∀w:Zy,(l8 u)[k]?=some (iv w)->(l++[Qk (Z5 .u32 (iv w) 24),Qk (Z5 .u32 (iv w) 16),Qk (Z5 .u32 (iv w) 8),Qk (iv w)])=((l8 u).take (k+1)).flatMap (Jd 4)/\Q0 ((k:Int)+1)=((k+1:Nat):Int):=λw hw=>⟨by
   rw[Qu5,hl,List.take_add_one,hw,List.flatMap_append];simp,Y0 hk (by decide)⟩
  have sz:∀(x:List Int),x.length=4->(l.length+x.length) * 1<=140737488355328:=λx hx=>by rw[hlen,hx];omega
  have:k=0\/k=1\/k=2\/k=3\/k=4\/k=5\/k=6\/k=7:=by omega
  rcases this with rfl|rfl|rfl|rfl|rfl|rfl|rfl|rfl
  ·exact Ok.Ko rfl (Ok.app (sz _ rfl) (Ok.g (Ok.g (Ok.d (fin u.a rfl)))))
  ·exact Ok.Ko rfl (Ok.app (sz _ rfl) (Ok.g (Ok.g (Ok.d (fin u.b rfl)))))
  ·exact Ok.Ko rfl (Ok.app (sz _ rfl) (Ok.g (Ok.g (Ok.d (fin u.c rfl)))))
  ·exact Ok.Ko rfl (Ok.app (sz _ rfl) (Ok.g (Ok.g (Ok.d (fin u.d rfl)))))
  ·exact Ok.Ko rfl (Ok.app (sz _ rfl) (Ok.g (Ok.g (Ok.d (fin u.e rfl)))))
  ·exact Ok.Ko rfl (Ok.app (sz _ rfl) (Ok.g (Ok.g (Ok.d (fin u.f rfl)))))
  ·exact Ok.Ko rfl (Ok.app (sz _ rfl) (Ok.g (Ok.g (Ok.d (fin u.g rfl)))))
  ·exact Ok.Ko rfl (Ok.app (sz _ rfl) (Ok.g (Ok.g (Ok.d (fin u.h rfl)))))
 ·obtain⟨l,i⟩:=y;obtain⟨hl,rfl⟩:l=((l8 u).take 8).flatMap (Jd 4)/\i=((8:Nat):Int):=hy;exact Ok.f rfl (Ok.d hl)
def cat:List ze->ze
 | []=>zg
 | x :: l=>x++cat l
theorem Te(l k:List ze):cat (l++k)=cat l++cat k:=by
 induction l with
 | nil=>simp[cat]
 | cons x l ih=>rw[List.cons_append,cat,cat,ih,ByteArray.append_assoc]
theorem Eg(x:ze):cat [x]=x:=by simp[cat]
theorem RI{l:List ze}(h:∀s,s∈l->s.size<=100000):(cat l).size<=100000 * l.length:=by
 induction l with
 | nil=>simp[cat]
 | cons x l ih=>
  grind [List.mem_cons_of_mem,List.mem_cons_self,ByteArray.size_append,List.length_cons,cat]
theorem mA(v:V8):A8 zg v=v:=by unfold A8;rfl
abbrev S10:=Int×Int×Int×Int×Int×Int×Int×Int×ze×Int
def D2(m:ze)(v0:V8):S10:=(iv (A8 m v0).a,iv (A8 m v0).b,iv (A8 m v0).c,iv (A8 m v0).d,iv (A8 m v0).e,iv (A8 m v0).f,iv (A8 m v0).g,iv (A8 m v0).h,m.extract (64 * (m.size / 64)) m.size,((m.size:Nat):Int))
theorem FA(v0:V8)(l:List ze)(hl:l.length<=4)(hs:∀s,s∈l->s.size<=100000):Qy (TF (iv v0.a) (iv v0.b) (iv v0.c) (iv v0.d) (iv v0.e) (iv v0.f) (iv v0.g) (iv v0.h) l) (λr=>r=OW (cat l) v0):=by
 unfold TF;refine Qy.fn ?_;unfold Qmy;have hc:=RI hs;refine Ok.b (R:=λe=>e=D2 (cat l) v0) ?_ λe he=>?_
 ·refine Ok.s l.length (by omega) (λk y=>y=((D2 (cat (l.take k)) v0).1,(D2 (cat (l.take k)) v0).2.1,(D2 (cat (l.take k)) v0).2.2.1,(D2 (cat (l.take k)) v0).2.2.2.1,(D2 (cat (l.take k)) v0).q.1,(D2 (cat (l.take k)) v0).q.2.1,(D2 (cat (l.take k)) v0).q.2.2.1,(D2 (cat (l.take k)) v0).q.2.2.2.1,(D2 (cat (l.take k)) v0).q.q.1,(D2 (cat (l.take k)) v0).q.q.2,(k:Int))) ?_ (λk y hy hk=>?_) λy hy=>?_
  ·simp_all [List.take_zero,mA,D2,cat]
  ·subst hy;obtain⟨x,hx,hx'⟩:=G2 (l:=l) (k:=k) hk;have hm:cat (l.take (k+1))=cat (l.take k)++x:=by rw[List.take_add_one,hx',Te];simp[cat]
   have hz:=RI (l:=l.take k) λs h=>hs s (List.mem_of_mem_take h);have hx2:=hs x (wd hx');rw[qh] at hz;rw[hm];generalize cat (l.take k)=m at hz ⊢;refine Ok.t (by grind [Jc]) (Ok.r (by simp) hx (Ok.c (show Qy _ _ from Qzw x m v0 (by omega)) λr hr=>Ok.d ?_));grind [Y0,D2,Q0]
  grind [Ok.f,Jc,Ok.d,List.take_length]
 ·subst he;exact Ok.c (show Qy _ _ from Qzh (cat l) v0 (by omega)) λr hr=>Ok.d hr
def xk(c:Int)(s:ze):ze:=strOfNums ((P4 (List.replicate 64 (0:Int)) 0 (Q2 s)).map λx=>R2 .u8 x c)
theorem map_set{f:Int->Int}{L:List Int}{k:Nat}{x:Int}(h:L[k]?=some x):((L.take k).map f++L.drop k).set (0+k) (f x)=(L.take (k+1)).map f++L.drop (k+1):=by
 have hk:k < L.length:=(by grind)
 have hx:L[k]=x:=(by grind);rw[we,List.drop_eq_getElem_cons hk,List.take_add_one,h,hx,List.set_append_right _ _ (by simp;omega)];simp[Nat.min_eq_left (Nat.le_of_lt hk)]
theorem nM{f:Int->Int}{L:List Int}{k:Nat}{x:Int}(h:L[k]?=some x):((L.take k).map f++L.drop k)[0+k]?=some x:=by
 grind
theorem CO(s:ze)(hs:s.size<=64):(P4 (List.replicate 64 (0:Int)) 0 (Q2 s)).length=64:=by
 grind [DI,J4,List.length_replicate]
theorem BL(c:Int)(s:ze)(hs:s.size<=64):(xk c s).size=64:=by
 grind [strOfNums_size,List.length_map,CO,xk]
theorem Cr(c:Int)(s:ze)(hs:s.size<=64):Qy (oT c s) (λr=>r=xk c s):=by
 unfold oT;refine Qy.fn ?_;unfold Qki xk;have hL:=CO s hs;generalize P4 (List.replicate 64 (0:Int)) 0 (Q2 s)=L at hL ⊢;refine Ok.o rfl (Ok.o (r:=()) ?_ (Ok.b (R:=λe=>e=L.map λx=>R2 .u8 x c) ?_ λe he=>Ok.fact (by grind) (Ok.o rfl (Ok.d (by rw[he])))))
 ·show (bif decide (s.size<=64)&&decide (0 < 64) then some () else none)=some ();grind
 ·refine Ok.s 64 (by decide) (λk y=>y=((L.take k).map (λx=>R2 .u8 x c)++L.drop k,(k:Int))) rfl (λk y hy hk=>?_) λy hy=>?_
  ·subst hy;obtain⟨x,hx,hx'⟩:=G2 (l:=L) (k:=k) (by omega);have hg:=nM (f:=λx=>R2 .u8 x c) hx';refine Ok.t (by simp;omega) (Ok.k (by simp;omega) (Ok.r rfl hg (Ok.k (by simp;omega) (Ok.r rfl hg (Ok.re (Ok.d ?_))))));grind [Y0,map_set,List.set,Q0,R2]
  ·subst hy;refine Ok.f rfl (Ok.d ?_);grind
def keyOf(key:ze)(v0:V8):ze:=if 64 < key.size then OW key v0 else key
theorem Bz(key:ze)(v0:V8):(keyOf key v0).size<=64:=by
 grind [Uc,keyOf]
def OQ(v0:V8)(key s:ze):ze:=OW (xk 92 (keyOf key v0)++OW (xk 54 (keyOf key v0)++s) v0) v0
theorem ZU(v0:V8)(key s:ze):(OQ v0 key s).size=32:=Uc _ _
theorem FI(v0:V8)(key:ze)(l:List ze)(hk:key.size<=100000)(hl:l.length<=3)(hs:∀s,s∈l->s.size<=100000):Qy (Sh (iv v0.a) (iv v0.b) (iv v0.c) (iv v0.d) (iv v0.e) (iv v0.f) (iv v0.g) (iv v0.h) key l) (λr=>r=OQ v0 key (cat l)):=by
 unfold Sh;refine Qy.fn ?_;unfold Qmj OQ;have hz:=Bz key v0;refine Ok.b (R:=λx=>x=keyOf key v0) ?_ λx he=>?_
 ·refine Ok.e (λhc=>Ok.v (FA v0 [key] (show 1<=4 by decide) (by simpa using hk)) λr hr=>Ok.d ?_) λhc=>Ok.d ?_
  ·have hc:(64:Int) < (key.size:Int):=by simpa using hc
   have hc:64 < key.size:=by omega
   rw[hr,keyOf,if_pos hc,Eg]
  ·have hc:¬(64:Int) < (key.size:Int):=by simpa using hc
   have hc:¬64 < key.size:=by omega
   rw[keyOf,if_neg hc]
 ·subst he;have z1:=BL 92 (keyOf key v0) hz;have z2:=BL 54 (keyOf key v0) hz;refine Ok.v (Cr 92 _ hz) λr1 h1=>Ok.v (Cr 54 _ hz) λr2 h2=>Ok.app (by grind) ?_;subst h1 h2;refine Ok.v (FA v0 ([xk 54 (keyOf key v0)]++l) (by rw[qc,List.length_singleton];omega) (λs h=>?_)) λr3 h3=>?_
  ·grind
  have e3:r3=OW (xk 54 (keyOf key v0)++cat l) v0:=by rw[h3,Te,Eg]
  refine Ok.v (FA v0 [xk 92 (keyOf key v0),r3] (show 2<=4 by decide) (by rw[e3];simp[Uc];omega)) λr4 h4=>Ok.d ?_;simp_all [cat]
theorem gI(v0:V8)(key s:ze)(hk:key.size<=100000)(hs:s.size<=100000):Qy (Sh (iv v0.a) (iv v0.b) (iv v0.c) (iv v0.d) (iv v0.e) (iv v0.f) (iv v0.g) (iv v0.h) key [s]) (λr=>r=OQ v0 key s):=by
 grind [FI,Eg]
def vS:V8:=⟨1779033703,3144134277,1013904242,2773480762,1359893119,2600822924,528734635,1541459225⟩
def V2(key s:ze):ze:=OQ vS key s
theorem nE(key s:ze)(hk:key.size<=100000)(hs:s.size<=100000):(Sh 1779033703 3144134277 1013904242 2773480762 1359893119 2600822924 528734635 1541459225 key [s]).o=some (V2 key s)/\(V2 key s).size=32:=by
 obtain⟨r,h1,h2⟩:=gI vS key s hk hs;subst h2;exact⟨h1,ZU _ _ _⟩
theorem AN(l:List ze)(hn:l.length<=10)(hl:∀s,s∈l->s.size<=4096):Qy (TG l) (λr=>r=false):=by
 unfold TG;show Ok (Qmh l) _;refine Ok.p (R:=λe=>e=.inr ()) ?_ (λe he=>by cases he) (λe he=>Ok.d rfl);refine Ok.s l.length (by omega) (λk y=>y=(k:Int)) rfl (λk y hy hk=>?_) λy hy=>?_
 ·subst hy;refine Ok.t (by grind [Jc]) ?_;obtain⟨x,hx,hx'⟩:=G2 (l:=l) (k:=k) hk;grind [List.mem_of_getElem?,Ok.r,Ok.f,Ok.d,Y0]
 ·subst hy;exact Ok.f (by rw[Jc];simp) (Ok.d rfl)
theorem gO(a b:ze)(ha:a.size<=4096)(hb:b.size<=4096):Qy (TG [a,b]) (λr=>r=false):=
 (by grind [AN])
theorem SX(key s:ze)(hk:key.size<=4096)(hs:s.size<=4096):Qy (s96 key s) (λr=>r=(V2 key s,0)):=by
 unfold s96;show Ok (g96 key s) _;refine Ok.v (gO key s hk hs) λr hr=>?_;subst hr;refine Ok.f rfl (Ok.c (Qy.o FC) λr hr=>?_);subst hr;exact Ok.v (Qy.o (nE key s (by omega) (by omega)).1) (by grind [Ok.d])
def Mq(s:ze):ze:=OW s vS
theorem B8(k s:ze):(V2 k s).size=32:=ZU _ _ _
theorem WO(s:ze):(Mq s).size=32:=Uc _ _
def rT(secret salt info:ze):ze:=V2 (V2 salt secret) (info++bs [1])
theorem Ut(a b c:ze):(rT a b c).size=32:=B8 _ _
theorem FX(s:ze)(hs:s.size<=4096):Qy (s95 s) (λr=>r=(Mq s,0)):=by
 show Ok (g95 s) _;unfold g95;refine Ok.v (AN [s] (by simp) (by simpa using hs)) λr hr=>?_;subst hr;refine Ok.f rfl (Ok.c (Qy.o FC) λr hr=>?_);subst hr;refine Ok.v (FA vS [s] (by simp) (by simp;omega)) λr hr=>Ok.d ?_;rw[hr,Eg];rfl
theorem AR(a b c:ze)(ha:a.size<=4096)(hb:b.size<=4096)(hc:c.size<=4096):Qy (s94 a b c 32) (λr=>r=(rT a b c,0)):=by
 show Ok (g94 a b c 32) _;unfold g94;refine Ok.v (AN [a,b,c] (by simp) (by simp[ha,hb,hc])) λr hr=>?_;subst hr;refine Ok.f rfl (Ok.n (R:=λr=>r=false) (Ok.f rfl (Ok.d rfl)) λr hr=>?_);subst hr;refine Ok.f rfl (Ok.c (Qy.o FC) λr hr=>?_);subst hr;refine Ok.v (FI vS b [a] (by omega) (by simp) (by simp;omega)) λp hp=>?_;rw[Eg] at hp;have hz:p.size=32:=by rw[hp];exact ZU _ _ _
 refine Ok.b (R:=λe=>e=OQ vS p (c++bs [1])) ?_ λe he=>?_
 ·refine Ok.s 1 (by decide) (λk y=>y.2.2=(k:Int)+1/\(k=0->y.1=zg/\y.2.1=zg)/\(k=1->y.2.1=OQ vS p (c++bs [1]))) ⟨rfl,λ_=>⟨rfl,rfl⟩,λh=>by cases h⟩ (λk y hy hk=>?_) λy hy=>?_
  ·obtain⟨h1,h2,h3⟩:=hy;obtain rfl:k=0:=by omega
   obtain⟨e1,e2⟩:=h2 rfl;obtain⟨y1,y2,y3⟩:=y;simp only at h1 e1 e2;subst h1 e1 e2;refine Ok.t (by simp) (Ok.v (FI vS p [zg,c,strOfNums [Qk 1]] (by omega) (by simp) (by simp[strOfNums_size];omega)) λr hr=>Ok.k ?_ (Ok.d ?_))
   ·simp only[hr,ZU];decide
   ·refine⟨by rfl,λh=>(by cases h),λ_=>?_⟩;show zg++r=_;rw[hr];simp only[cat,ByteArray.empty_append,ByteArray.append_empty];rfl
  ·obtain⟨h1,h2,h3⟩:=hy;refine Ok.f ?_ (Ok.d (h3 rfl));rw[h3 rfl,ZU];rfl
 ·subst he;refine Ok.k ?_ (Ok.d ?_)
  ·rw[ZU];decide
  ·have e:(OQ vS p (c++bs [1])).extract 0 (32:Int).toNat=OQ vS p (c++bs [1]):=by
    have:=ByteArray.extract_zero_size (b:=OQ vS p (c++bs [1]));rw[ZU] at this;exact this
   rw[e,hp];rfl
def dgs:ze:=bs [48,49,50,51,52,53,54,55,56,57,65,66,67,68,69,70]
def V7:ze:=bs [115,104,97,45,50,53,54,32]
def HY(c:Int):Bool:=(decide (48<=c)&&decide (c<=57)) || (decide (65<=c)&&decide (c<=70))
def VK(i:Nat)(c:Int):Bool:=if i % 3=2 then c==58 else HY c
def YF(p:ze):Bool:=decide (p.size=103)&&(decide (p.extract 0 8=V7)&&(List.range 95).all λi=>VK i (QQ p ((8+i:Nat):Int)))
def CP(c:Int):Int:=QQ dgs (c / 16)
def CE(c:Int):Int:=QQ dgs (c % 16)
def HW:List Int->List Int
 | []=>[]
 | [c]=>[CP c,CE c]
 | c :: d :: l=>CP c :: CE c :: 58 :: HW (d :: l)
def E8(s:ze):ze:=V7++strOfNums (HW (Q2 s))
theorem jL(l:List Int)(c:Int):HW (l++[c])=(if l=[] then [] else HW l++[58])++[CP c,CE c]:=by
 induction l with
 | nil=>rfl
 | cons x l ih=>
  cases l with
  | nil=>rfl
  | cons y l=>
   simp_all [if_neg,CP,CE,HW]
theorem rY:((List.range 256).all λn=>decide (firstIdx dgs ((n:Int)).toNat.toUInt8 < 0)==!HY (n:Int))=true:=by kernel_rfl
theorem Qzz(c:Int)(h:0<=c/\c < 256):Qy (Sy dgs c) (λr=>decide (r < 0)=!HY c):=by
 have h1:Qy (tH dgs c) (λr=>decide (r < 0)=!HY c):=by
  unfold tH;refine Qy.fn ?_;unfold Qk0;refine Ok.o (r:=()) rfl (Ok.d ?_);obtain⟨n,rfl⟩:=Int.eq_ofNat_of_zero_le h.1;grind [List.all_eq_true,rY]
 grind [oF,Qy.fn,Ok.c,Ok.d,Sy,Qkk]
theorem rX(i:Nat)(c:Int)(hc:0<=c/\c < 256)(s:ze):(VA (i:Int) s c).run=(bif VK i c then some (Q0 ((i:Int)+1)) else none)/\(VX (i:Int) s c).run=(bif VK i c then none else some ()):=by
 obtain⟨r,h1,h2⟩:=Qzz c hc;have h1:(Sy (bs [48,49,50,51,52,53,54,55,56,57,65,66,67,68,69,70]) c).o=some r:=h1;have e:Int.tmod (i:Int) 3=((i % 3:Nat):Int):=by grind
 unfold VA VX VK;simp only[T.run,h1,e,h2];by_cases h3:i % 3=2
 ·grind
 grind
theorem Qzb(s:ze)(hs:s.size<=1000):∃e,mFi 0 s=some e/\(match e with|.inl _=>((List.range s.size).all λi=>VK i (QQ s (i:Int)))=true|.inr _=>((List.range s.size).all λi=>VK i (QQ s (i:Int)))=false):=by
 refine Dm s.size (by omega) (λk y=>y=((k:Int),(k:Int))/\∀i,i < k->VK i (QQ s (i:Int))=true) (by grind) (λk y hy hk=>?_) λy hy=>?_
 ·obtain⟨h1,h2⟩:=hy;subst h1;obtain⟨ea,eb⟩:=rX k (QQ s (k:Int)) (D1 _ _) s;unfold MO;simp only[aN hk,ea,eb];cases hc:VK k (QQ s (k:Int)) with
  | true=>
   refine⟨.inl (Q0 ((k:Int)+1),Q0 ((k:Int)+1)),rfl,by grind [Y0],λi hi=>?_⟩;grind
  | false=>
   grind
 ·obtain⟨h1,h2⟩:=hy;subst h1;unfold MO;simp only[BD rfl];exact⟨.inl _,rfl,zN.2 λi hi=>h2 i (by simpa using hi)⟩
theorem gL(s p:ze):Qy (tO s p) (λr=>r=if p.size<=s.size/\s.extract 0 p.size=p then (s.extract p.size s.size,true) else (s,false)):=by
 have h1:Qy (s99 s p) (λr=>r=decide (p.size<=s.size/\s.extract 0 p.size=p)):=by
  unfold s99;refine Qy.fn ?_;unfold g99;refine Ok.n (R:=λr=>r=decide (p.size<=s.size/\s.extract 0 p.size=p)) (Ok.e (λh=>Ok.k (by simp at h ⊢;omega) (Ok.d ?_)) λh=>Ok.d ?_) λr hr=>Ok.d hr
  ·grind
  grind
 have h2:Qy (tW s p) (λr=>r=if p.size<=s.size/\s.extract 0 p.size=p then (s.extract p.size s.size,true) else (s,false)):=by
  unfold tW;refine Qy.fn ?_;unfold Qk1;refine Ok.c h1 λr hr=>?_;subst hr;refine Ok.e (λh=>Ok.d ?_) λh=>?_
  ·grind
  simp_all [if_pos,Ok.k,Ok.d,zW]
 grind [oF,Qy.fn,Ok.c,Ok.d,tO,Qkm]
theorem NS(p:ze):Qy (Ff p) (λr=>r=YF p):=by
 unfold Ff;refine Qy.fn ?_;unfold eC;refine Ok.c (gL p V7) λr hr=>?_;rw[show V7.size=8 from rfl] at hr;by_cases hk:8<=p.size/\p.extract 0 8=V7
 rotate_left
 ·rw[if_neg hk] at hr;subst hr;refine Ok.n (R:=λc=>c=true) (Ok.t rfl (Ok.d rfl)) λc hc=>Ok.t hc (Ok.d ?_);grind [decide_eq_false,YF,V7]
 ·rw[if_pos hk] at hr;subst hr;have hz:(p.extract 8 p.size).size=p.size - 8:=by simp_all
  refine Ok.n (R:=λc=>c=!decide (p.size=103)) (Ok.f rfl (Ok.d ?_)) λc hc=>?_
  ·grind
  ·subst hc;refine Ok.e (λh=>Ok.d ?_) λh=>?_
   ·grind [decide_eq_false,YF]
   ·have h:p.size=103:=by simpa using h
    refine Ok.c (R:=λ_=>True) ⟨(),by rfl,trivial⟩ λ_ _=>Ok.g ?_;obtain⟨e,m1,m2⟩:=Qzb (p.extract 8 p.size) (by omega);have hall:((List.range (p.extract 8 p.size).size).all λi=>VK i (QQ (p.extract 8 p.size) (i:Int)))=YF p:=by
     unfold YF;rw[wg h,wg (show p.extract 0 8=V7 from hk.2),hz,h];simp only[Bool.true_and];rw[Bool.eq_iff_iff,zN,zN];have e1:∀i:Nat,i < 95->QQ (p.extract 8 103) (i:Int)=QQ p ((8+i:Nat):Int):=(by grind [XG]);refine⟨λq i hi=>?_,λq i hi=>?_⟩
     ·grind
     grind
    rw[hall] at m2;clear hall;have m1:(jJ 0 (p.extract 8 p.size)).o=some e:=by unfold jJ;exact m1
    generalize YF p=B at *;generalize p.extract 8 p.size=q at *;exact Ok.pR (R:=λe=>match e with|.inl _=>B=true|.inr _=>B=false) (x:=e) m1 (by grind) (by grind [Ok.d]) (by grind [Ok.d])
theorem Qzd(p:ze):Qy (Qq9 p) (λr=>(r==0)=YF p):=by
 grind [oF,Qy.fn,Ok.c,NS,Ok.e,Ok.d,Qq9,Qe2,YF]
def Xa(c:Int):ze:=strOfNums [CP c,CE c]
theorem lN(y:List ze)(s:ze)(c:Int)(hc:0<=c/\c < 256)(hl:y.length<=1000):(VD y s c).run=some (y++[Xa c]):=by
 have e1:Qk (Int.tdiv c 16)=c / 16:=by rw[C2,Int.tdiv_eq_ediv_of_nonneg hc.1];omega
 have e2:Int.tmod c 16=c % 16:=(by grind);unfold VD;simp only[T.run,e1,e2,show (bs [48,49,50,51,52,53,54,55,56,57,65,66,67,68,69,70]).size=16 from rfl];rw[wg (show 0<=c / 16/\c / 16 < ((16:Nat):Int) by omega),wg (show 0<=c % 16/\c % 16 < ((16:Nat):Int) by omega),wg (by show (y.length+1) * 16<=_;omega)];rfl
theorem Qzs(s:ze)(hs:s.size<=1000):mPr [] s=some (.inl ((Q2 s).map Xa)):=by
 have step:∀(k:Nat) (y:List ze×Int),y=(((Q2 s).take k).map Xa,(k:Int))->k < s.size->∃r,Mj s y=some r/\Sum.elim (λy=>y=(((Q2 s).take (k+1)).map Xa,((k+1:Nat):Int))) (λe=>e=.inl ((Q2 s).map Xa)) r:=λk y hy hk=>by
  subst hy;unfold Mj;simp only[aN hk,lN _ s _ (D1 _ _) (show (((Q2 s).take k).map Xa).length<=1000 by simp;omega)];refine⟨_,rfl,?_⟩;grind [Y0,List.take_add_one,S7]
 have last:∀y:List ze×Int,y=(((Q2 s).take s.size).map Xa,(s.size:Int))->∃e,Mj s y=some (.inr e)/\e=.inl ((Q2 s).map Xa):=λy hy=>by
  subst hy;unfold Mj;simp only[BD rfl];rw[List.take_of_length_le (by rw[E7];omega)];exact⟨_,rfl,rfl⟩
 obtain⟨e,h1,h2⟩:=Dm (f:=Mj s) (x0:=([],0)) s.size (by omega) (λk y=>y=(((Q2 s).take k).map Xa,(k:Int))) (by grind) step last;rw[<-h2];exact h1
theorem rQ(l:List Int):Q2 (KM (l.map Xa) (bs [58]))=HW l/\(KM (l.map Xa) (bs [58])).size<=3 * l.length:=by
 have rng:∀c,(0<=CP c/\CP c < 256)/\(0<=CE c/\CE c < 256):=λc=>⟨D1 _ _,D1 _ _⟩
 have p2:∀c,Q2 (Xa c)=[CP c,CE c]:=λc=>N3 (by
  grind)
 have key:Q2 (KM (l.map Xa) (bs [58]))=HW l:=by
  induction l with
  | nil=>rfl
  | cons c l ih=>
   cases l with
   | nil=>
    show Q2 ⟨(List.intercalate _ [(Xa c).data.toList]).toArray⟩=_;rw[show List.intercalate (bs [58]).data.toList [(Xa c).data.toList]=(Xa c).data.toList by simp_all];exact p2 c
   | cons d l=>
    have e:KM ((c :: d :: l).map Xa) (bs [58])=Xa c++(bs [58]++KM ((d :: l).map Xa) (bs [58])):=by
     refine ByteArray.ext ?_;simp[KM,Lib.join,List.intercalate,List.intersperse]
    rw[e,UR,UR,ih,p2];rfl
 refine⟨key,?_⟩;rw[<-E7,key];clear key;induction l with
 | nil=>simp[HW]
 | cons c l ih=>
  cases l with
  | nil=>simp[HW]
  | cons d l=>
   grind [List.length_cons,HW]
theorem Rq(b:Z7)(hv:L9 b=true):Qy (Cy b) (λr=>r=E8 (Mq (W7 b))):=by
 unfold Cy;refine Qy.fn ?_;unfold sN;have hz:=Ka hv;obtain⟨n1,n2⟩:=B1 (N8 hv).1;refine Ok.c (SA b) λr1 h1=>?_;rw[if_pos hv] at h1;subst h1;refine Ok.c (FX (W7 b) (by omega)) λr2 h2=>?_;subst h2;have hs:=WO (W7 b);refine Ok.c (R:=λ_=>True) ⟨(),by rfl,trivial⟩ λ_ _=>Ok.g (Ok.g ?_);obtain⟨j1,j2⟩:=rQ (Q2 (Mq (W7 b)));rw[E7,hs] at j2;refine Ok.Ou (r:=(Q2 (Mq (W7 b))).map Xa) (by show (match mPr [] (Mq (W7 b)) with|some (.inl r)=>some r|_=>none)=_;grind [Qzs]) (Ok.v (R:=λr=>r=KM ((Q2 (Mq (W7 b))).map Xa) (bs [58])) ?_ λr hr=>?_)
 ·refine⟨_,?_,rfl⟩;show (rK _ _).run=_;grind [decide_eq_true,E7,rK,T.run]
 ·have e:r=strOfNums (HW (Q2 (Mq (W7 b)))):=by rw[hr,<-j1,Jb]
  subst e;refine Ok.k ?_ (Ok.d rfl);rw[hr];rw[zM];show 8+_<=_;omega
theorem Ja{α:Type}{f:α->Bool}{l:List α}{k:Nat}{x:α}(h:l[k]?=some x)(h1:(l.take k).any f=false):(l.take (k+1)).any f=f x:=by
 grind [List.take_add_one]
theorem C0{α:Type}{f:α->Bool}{l:List α}{k:Nat}(h:(l.take k).any f=true):l.any f=true:=by
 grind
theorem Qzq(l:List ze)(hl:l.length<=100000):Qy (vE l) (λr=>decide (0<=r)=l.any λx=>!YF x):=by
 unfold vE;refine Qy.fn ?_;unfold Qm4;refine Ok.p (R:=Sum.elim (λe=>0<=e/\(l.any λx=>!YF x)=true) (λ_=>(l.any λx=>!YF x)=false)) ?_ (by grind [Ok.d]) (by grind [Ok.d]);refine Ok.s l.length (by omega) (λk y=>y=(k:Int)/\((l.take k).any λx=>!YF x)=false) ⟨rfl,rfl⟩ (λk y hy hk=>?_) λy hy=>?_
 ·obtain⟨rfl,h1⟩:=hy;obtain⟨x,hx,hx'⟩:=G2 (l:=l) (k:=k) hk;have h2:=Ja hx' h1;have hb:Qy (tJ x) (λr=>r=!YF x):=by
   grind [oF,Qy.fn,Ok.c,NS,Ok.d,tJ,Qwc]
  grind [Ok.t,G5,Ok.r,Ok.c,Ok.e,Ok.d,C0,Y0]
 ·obtain⟨rfl,h1⟩:=hy;grind [List.take_length,Ok.f,G5,Ok.d]
theorem gD(l:List ze)(hl:l.length<=100000):Qy (Su l) (λr=>decide (0<=r)=l.any λx=>!decide (x.size=32)):=by
 unfold Su;refine Qy.fn ?_;unfold dQ;refine Ok.p (R:=Sum.elim (λe=>0<=e/\(l.any λx=>!decide (x.size=32))=true) (λ_=>(l.any λx=>!decide (x.size=32))=false)) ?_ (by grind [Ok.d]) (by grind [Ok.d]);refine Ok.s l.length (by omega) (λk y=>y=(k:Int)/\((l.take k).any λx=>!decide (x.size=32))=false) ⟨rfl,rfl⟩ (λk y hy hk=>?_) λy hy=>?_
 ·obtain⟨rfl,h1⟩:=hy;obtain⟨x,hx,hx'⟩:=G2 (l:=l) (k:=k) hk;have h2:=Ja hx' h1;have hb:Qy (vD x) (λr=>r=!decide (x.size=32)):=by
   unfold vD;refine Qy.fn ?_;unfold Qm5;refine Ok.d ?_;grind
  grind [Ok.t,G5,Ok.r,Ok.c,Ok.e,Ok.d,C0,Y0]
 ·obtain⟨rfl,h1⟩:=hy;grind [List.take_length,Ok.f,G5,Ok.d]
theorem gE(l:List ze)(hl:l.length<=100000):Qy (Sj l) (λr=>decide (0<=r)=l.any λx=>!YF x):=by
 unfold Sj;refine Qy.fn ?_;unfold eV;refine Ok.p (R:=Sum.elim (λe=>0<=e/\(l.any λx=>!YF x)=true) (λ_=>(l.any λx=>!YF x)=false)) ?_ (by grind [Ok.d]) (by grind [Ok.d]);refine Ok.s l.length (by omega) (λk y=>y=(k:Int)/\((l.take k).any λx=>!YF x)=false) ⟨rfl,rfl⟩ (λk y hy hk=>?_) λy hy=>?_
 ·obtain⟨rfl,h1⟩:=hy;obtain⟨x,hx,hx'⟩:=G2 (l:=l) (k:=k) hk;have h2:=Ja hx' h1;have hb:Qy (Qqq x) (λr=>r=!YF x):=by
   grind [oF,Qy.fn,Ok.c,Qzd,Ok.d,Qqq,Qe3]
  grind [Ok.t,G5,Ok.r,Ok.c,Ok.e,Ok.d,C0,Y0]
 ·obtain⟨rfl,h1⟩:=hy;grind [List.take_length,Ok.f,G5,Ok.d]
theorem gG(l:List ze)(hl:l.length<=100000):Qy (Qqz l) (λr=>r=l.any λx=>!YF x):=by
 grind [oF,Qy.fn,Ok.c,Qzq,Ok.d,Qqz,Qe4]
theorem kB(l:List ze)(hl:l.length<=100000):Qy (Sa l) (λr=>r=l.any λx=>!decide (x.size=32)):=by
 grind [oF,Qy.fn,Ok.c,gD,Ok.d,Sa,dJ]
theorem kS(l:List ze)(hl:l.length<=100000):Qy (Sd l) (λr=>r=l.any λx=>!YF x):=by
 grind [oF,Qy.fn,Ok.c,gE,Ok.d,Sd,dY]
theorem XM{α:Type}(f:α->Bool)(l:List α):(!l.any λx=>!f x)=l.all f:=by grind
theorem WT(l:List ze)(hl:l.length<=100000):Qy (TP l) (λr=>r=l.all λx=>decide (x.size=32)):=by
 grind [oF,Qy.fn,Ok.c,kB,Ok.d,XM,TP,Qe5]
theorem Qz9(l:List ze)(p:ze)(hl:l.length<=100000):Qy (s93 l p) (λr=>decide (r < 0)=!l.any λx=>decide (p=x)):=by
 unfold s93;refine Qy.fn ?_;unfold g93;refine Ok.p (R:=Sum.elim (λe=>0<=e/\(l.any λx=>decide (p=x))=true) (λ_=>(l.any λx=>decide (p=x))=false)) ?_ (by grind [Ok.d]) (by grind [Ok.d]);refine Ok.s l.length (by omega) (λk y=>y=(k:Int)/\((l.take k).any λx=>decide (p=x))=false) ⟨rfl,rfl⟩ (λk y hy hk=>?_) λy hy=>?_
 ·obtain⟨rfl,h1⟩:=hy;grind [G2,Ja,Ok.t,G5,Ok.r,Ok.e,Ok.d,C0,Y0]
 ·obtain⟨rfl,h1⟩:=hy;grind [List.take_length,Ok.f,G5,Ok.d]
def SR(b:Z7)(l:List ze):Int:=bif !L9 b then 180 else bif decide (8 < l.length) then 3 else bif (l.any λx=>!YF x) then 5 else bif (l.any λx=>decide (E8 (Mq (W7 b))=x)) then 0 else 4
def Yo(b:Z7)(l:List ze)(now:Int):Int:=bif SR b l != 0 then SR b l else bif decide (now < 0) || decide (1099511627776 < now) then 2 else bif decide (now < b.fI) || decide (b.fF < now) then 10 else 0
theorem mQ(b:Z7)(l:List ze):Qy (tU b l) (λr=>r.2=SR b l):=by
 unfold tU;refine Qy.fn ?_;unfold Qwt SR;refine Ok.c (Ez b) λr hr=>?_;subst hr;refine Ok.e (λh=>Ok.d ?_) λh=>?_
 ·rw[h];rfl
 ·rw[h];have hv:L9 b=true:=by simpa using h
  refine Ok.e (λh=>Ok.d ?_) λh=>?_
  ·grind [G5,decide]
  grind [G5,Ok.c,gG,Ok.e,Ok.d,Rq,Qz9,Bool.not_eq_true',Bool.not_eq_false',decide]
theorem Qzx(b:Z7)(l:List ze)(now:Int):Qy (tM b l now) (λr=>r=Yo b l now):=by
 unfold tM;refine Qy.fn ?_;unfold Qk3 Yo;refine Ok.c (mQ b l) λr hr=>?_;rw[hr];refine Ok.e (by grind [Ok.d]) λh=>?_;rw[h];refine Ok.n (R:=λc=>c=(decide (now < 0) || decide (1099511627776 < now))) (by grind [Ok.e,Ok.d]) λc hc=>?_;subst hc;refine Ok.e (by grind [Ok.d]) λh=>?_;rw[h];refine Ok.n (R:=λc=>c=(decide (now < b.fI) || decide (b.fF < now))) (by grind [Ok.e,Ok.d]) λc hc=>?_;grind [Ok.e,Ok.d]
def B7(n:Q9):Bool:=decide (0<=n.fw)&&(decide (n.fw<=255)&&(decide (0<=n.fV)&&(decide (n.fV < 65536)&&decide ((n.ft.size:Int)<=4000))))
def T5(n:Int):Bool:=decide (0<=n)&&decide (n<=1099511627776)
def ZG(k:Int):Int:=if k=1 then 400 else if k=2 then 800 else if k=3 then 1600 else if k=4 then 3200 else 6400
def Zt(t:Y1):Bool:=bif t.fB==-1 then t.fY==0&&t.fO==0 else decide (0<=t.fB)&&(decide (1<=t.fO)&&(decide (t.fO<=8)&&t.fY==ZG t.fO))
def pP:Y1:=⟨-1,0,0⟩
def stZ:Y1:=⟨0,0,0⟩
def UX(now:Int):Y1:=⟨now+400,400,1⟩
def Ub(t:Y1)(now:Int):Bool×Int:=bif !Zt t then (false,192) else bif !T5 now then (false,2) else (decide (0<=t.fB)&&decide (t.fB<=now),0)
def GD(t:Y1)(now:Int):Y1×Int:=bif (Ub t now).2 != 0 then (stZ,(Ub t now).2) else bif !(Ub t now).1 then (stZ,8) else bif t.fO==8 then (stZ,4) else (⟨now+ZG (t.fO+1),ZG (t.fO+1),t.fO+1⟩,0)
theorem Ul(n m:Int):Qy (Si n m) (λr=>r=(decide (0<=n)&&decide (n<=m))):=by
 unfold Si;refine Qy.fn ?_;unfold Qeq;refine Ok.n (R:=λr=>r=(decide (0<=n)&&decide (n<=m))) (Ok.e (by grind [Ok.d]) (by grind [Ok.d])) λr hr=>Ok.d hr
theorem NC(n:Q9):Qy (s58 n) (λr=>r=bif B7 n then 0 else 190):=by
 unfold s58;refine Qy.fn ?_;unfold g58;refine Ok.n (R:=λc=>c=!B7 n) ?_ λc hc=>?_
 ·unfold B7;refine Ok.c (Ul _ _) λr hr=>Ok.e (λh=>Ok.d ?_) λh=>Ok.c (Ul _ _) λr2 hr2=>Ok.e (λh2=>Ok.d ?_) λh2=>Ok.d ?_;all_goals grind
 grind [Ok.e,Ok.d,B7]
theorem SK(n:Q9):Qy (Qq0 n) (λr=>r=B7 n):=by
 unfold Qq0;refine Qy.fn ?_;unfold Qma;refine Ok.n (R:=λc=>c=B7 n) ?_ λc hc=>Ok.d hc;unfold B7;repeat' first
  | refine Ok.e (λh=>?_) (λh=>?_)
  | refine Ok.d ?_
 all_goals grind
theorem Cn(k:Int)(h:1<=k/\k<=8):Qy (vM k) (λr=>r=ZG k):=by
 have:k=1\/k=2\/k=3\/k=4\/k=5\/k=6\/k=7\/k=8:=by omega
 rcases this with rfl|rfl|rfl|rfl|rfl|rfl|rfl|rfl<;>exact⟨_,by kernel_rfl,by rfl⟩
theorem Vi(k:Int)(h:1<=k/\k<=8):Qy (lU k) (λr=>r=ZG k):=by
 have:k=1\/k=2\/k=3\/k=4\/k=5\/k=6\/k=7\/k=8:=by omega
 have e:∀k v,(lU k).o=some v->v=ZG k->Qy (lU k) (λr=>r=ZG k):=λk v h1 h2=>⟨v,h1,h2⟩;rcases this with rfl|rfl|rfl|rfl|rfl|rfl|rfl|rfl
 ·exact e 1 400 (by kernel_rfl) rfl
 ·exact e 2 800 (by kernel_rfl) rfl
 ·exact e 3 1600 (by kernel_rfl) rfl
 ·exact e 4 3200 (by kernel_rfl) rfl
 all_goals exact e _ 6400 (by kernel_rfl) rfl
theorem kG(t:Y1):Qy (lH t) (λr=>r=bif Zt t then 0 else 192):=by
 unfold lH;refine Qy.fn ?_;unfold Qe0;refine Ok.n (R:=λc=>c=!Zt t) ?_ λc hc=>?_
 ·unfold Zt;cases ha:(t.fB==-1) with
  | true=>
   have h0:t.fB < 0:=by grind
   simp only[Bool.true_and,Bool.and_true,cond_true];grind [Ok.e,Ok.t,Ok.d]
  | false=>
   simp only[Bool.false_and,Bool.not_false,cond_false];refine Ok.t rfl (Ok.e (λh1=>Ok.d ?_) λh1=>Ok.e (λh2=>Ok.d ?_) λh2=>Ok.e (λh3=>Ok.d ?_) λh3=>Ok.c (Cn _ (by simp at h2 h3;omega)) λr hr=>Ok.d ?_)
   ·grind
   ·grind
   ·grind
   grind
 grind [Ok.e,Ok.d,Zt]
theorem kM(t:Y1):Qy (Ai t) (λr=>r=Zt t):=by
 unfold Ai;refine Qy.fn ?_;unfold Qe8 Zt;refine Ok.e (λh=>?_) λh=>?_
 ·rw[h];exact Ok.n (R:=λc=>c=(t.fY==0&&t.fO==0)) (Ok.e (by grind [Ok.d]) (by grind [Ok.d])) λc hc=>Ok.d hc
 ·rw[h];refine Ok.n (R:=λc=>c=(decide (0<=t.fB)&&(decide (1<=t.fO)&&(decide (t.fO<=8)&&t.fY==ZG t.fO)))) (Ok.e (λh=>?_) (by grind [Ok.d])) λc hc=>Ok.d hc;grind [Ok.e,Ok.d,Ok.c,Vi]
theorem kF(t:Y1)(now:Int):Qy (lZ t now) (λr=>r=Ub t now):=by
 unfold lZ;refine Qy.fn ?_;unfold Qmq Ub T5;refine Ok.c (kG t) λr hr=>?_;subst hr;cases Zt t with
 | false=>exact Ok.t rfl (Ok.d rfl)
 | true=>
  refine Ok.f rfl (Ok.c (Ul _ _) λr hr=>?_);grind [Ok.e,Ok.d,Ok.c,Ul]
theorem aR{t:Y1}{now:Int}(h:((Ub t now).2 != 0)=false)(h2:(!(Ub t now).1)=false):T5 now=true/\1<=t.fO/\t.fO<=8:=by
 unfold Ub at h h2;cases ht:Zt t with
 | false=>grind
 | true=>
  cases hn:T5 now with
  | false=>grind
  | true=>
   refine⟨rfl,?_⟩;rw[ht,hn] at h2;simp only[Bool.not_true,cond_false,Bool.not_eq_false',zL,zM] at h2;unfold Zt at ht;grind
theorem Qd0{t:Y1}{now:Int}(h:T5 now=true/\1<=t.fO/\t.fO<=8):Q0 (t.fO+1)=t.fO+1/\Q0 (now+ZG (t.fO+1))=now+ZG (t.fO+1):=by
 obtain⟨h1,h2,h3⟩:=h;unfold T5 at h1;simp only[zL,zM] at h1;grind [Z2,ZG]
theorem kN(t:Y1)(now:Int):Qy (vI t now) (λr=>r=GD t now):=by
 unfold vI;refine Qy.fn ?_;unfold Qm9 GD;refine Ok.c (kF t now) λr hr=>?_;subst hr;refine Ok.e (λh=>Ok.d (by rw[h];rfl)) λh=>?_;rw[h];refine Ok.e (λh2=>Ok.d (by rw[h2];rfl)) λh2=>?_;rw[h2];refine Ok.e (λh3=>Ok.d (by rw[h3];rfl)) λh3=>?_;rw[h3];have f:=aR h h2;obtain⟨e1,e2⟩:=Qd0 f;grind [Ok.c,Cn,Ok.d]
theorem kO(now:Int)(h:T5 now=true):Qy (tG now) (λr=>r=(UX now,0)):=by
 unfold tG;refine Qy.fn ?_;unfold Qkd;have h':=h;unfold T5 at h';refine Ok.c (Ul _ _) λr hr=>Ok.f (by grind) (Ok.d ?_);simp only[zL,zM] at h';rw[Z2 (by omega) (by omega)];rfl
theorem Vo:Qy s68 (λr=>r=pP):=⟨_,rfl,rfl⟩
structure Sm(s:Q3):Prop where
 bd:s.fh.size<=100000
 pb:s.fj.fh.size<=100000
 td:s.fq.size<=100000
 rn:s.fG.size<=100000
 pr:s.fL.length<=1000
 ps:∀p,p∈s.fL->p.size<=100000
 ls:s.fP.length<=1000
def ZA(s:ze):Bool:=decide (s.size=32)
def HK(s:ze):Bool:=decide (s=zg)
def Uy(s:Q3)(x:H8):Int:=if x.QS=1 then x.Jw+(s.fh.size:Int) else if x.QS=2 then x.Jw+(s.fh.size:Int)+(s.fj.fh.size:Int) else x.Jw
def P3(s:Q3)(k:Int):Bool:=if k=0 then HK s.fj.fG&&(HK s.fj.fR&&(HK s.fj.fh&&HK s.fC)) else if k=1 then ZA s.fj.fG&&(ZA s.fj.fR&&(HK s.fj.fh&&HK s.fC)) else ZA s.fj.fG&&(ZA s.fj.fR&&(ZA s.fC&&okB s.fj.fh))
def V6(s:Q3)(k:Int):Bool:=if k=0 then decide (s.fP.length=0) else match s.fP with
 | [n]=>B7 n&&(n.fw==k&&n.fV==Q0 (s.fo - 1))
 | _=>false
def F5(s:Q3)(x:H8):Bool:=s.fp==x.JZ&&(s.fk==x.Yp&&(decide (x.ZK<=s.fo)&&(decide (s.fo<=x.Un)&&((s.fq.size:Int)==Uy s x&&(x.UT==decide (0<=s.fD.fB)&&(P3 s x.QS&&V6 s x.KA))))))
def Y8:List H8:=[⟨1,1,0,0,0,0,0,false⟩,⟨2,1,0,0,0,0,0,false⟩,⟨2,1,1,6,0,0,2,false⟩,⟨1,2,1,1,0,0,1,true⟩,⟨1,3,2,7,100,0,1,true⟩,⟨2,4,1,7,168,1,3,true⟩,⟨1,5,3,8,204,2,4,true⟩,⟨1,6,3,8,240,2,0,false⟩,⟨2,6,2,8,240,2,5,false⟩,⟨1,7,0,8,0,0,0,false⟩,⟨2,7,0,8,0,0,0,false⟩]
def Xj(s:Q3):Bool:=if s.fk=7 then s.ge==2 || (s.ge==4 || (s.ge==6 || (s.ge==9 || s.ge==10))) else s.ge==0
def UY(s:Q3):Bool:=if s.fp=2 then ZA s.gb else HK s.gb
def Uk(s:Q3):Bool:=decide (s.fL.length<=8)&&s.fL.all YF
def Rt(s:Q3):Bool:=T5 s.fm&&(ZA s.gd&&(ZA s.fZ&&(ZA s.fG&&(UY s&&(Uk s&&(okB s.fh&&(Zt s.fD&&Xj s)))))))
def QZ(s:Q3):Bool:=Rt s&&Y8.any (F5 s)
theorem Cg(s:ze)(hs:s.size<=100000):Qy (lW s) (λr=>r=okB s):=by
 grind [oF,Qy.fn,Ok.c,Dz,Ok.d,lW,Qe1,UQ,okB]
theorem gX(m:Z0)(x:H8)(h:Sm m.fe)(hx:x∈Y8):Qy (vH m x) (λr=>r=Uy m.fe x):=by
 have ht:0<=x.Jw/\x.Jw<=1000:=by
  have:(Y8.all λx=>decide (0<=x.Jw/\x.Jw<=1000))=true:=by decide
  grind
 have b:=h.bd;have p:=h.pb;unfold vH;refine Qy.fn ?_;unfold Qm1 Uy;refine Ok.e (λh1=>Ok.d ?_) λh1=>Ok.e (λh2=>Ok.d ?_) λh2=>Ok.d ?_
 ·rw[if_pos (by simpa using h1),Z2 (by omega) (by omega)]
 ·rw[if_neg (by simpa using h1),if_pos (by simpa using h2),Z2 (n:=x.Jw+_) (by omega) (by omega),Z2 (by omega) (by omega)]
 grind
theorem J5{P:Program}{G:zi}{a:Nat}{c d:Bool}{y:T P G Bool}(h:c=true->Ok y (λr=>r=d)):Ok (.br a c y (.done false)) (λr=>r=(c&&d)):=by
 simp_all [Ok.e,Ok.d,Bool.true_and]
theorem Dp{P:Program}{G:zi}{a:Nat}{c d:Bool}{y:T P G Bool}(h:c=false->Ok y (λr=>r=!d)):Ok (.br a c (.done true) y) (λr=>r=!(!c&&d)):=by
 simp_all [Ok.e,Ok.d]
theorem int32(s:ze):((s.size:Int)==32)=ZA s:=by unfold ZA;grind
theorem Qzc(a b:Int):decide (a < b)=!decide (b<=a):=by grind
theorem Rx{l:List Q9}(h:l.length=1):∃n,l=[n]:=by
 match l,h with
 | [n],_=>grind
theorem gA(m:Z0)(x:H8)(h:Sm m.fe)(hx:x∈Y8):Qy (Qq6 m x) (λr=>r=F5 m.fe x):=by
 unfold Qq6;refine Qy.fn ?_;unfold Qmc F5;refine Ok.n (R:=λc=>c=!(m.fe.fp==x.JZ&&(m.fe.fk==x.Yp&&(decide (x.ZK<=m.fe.fo)&&(decide (m.fe.fo<=x.Un)&&((m.fe.fq.size:Int)==Uy m.fe x&&x.UT==decide (0<=m.fe.fD.fB))))))) ?_ λc hc=>?_
 ·have f:∀b:Bool,b=!(!b):=λb=>by simp
  have e1:(m.fe.fp==x.JZ)=!(m.fe.fp != x.JZ):=by simp[bne]
  have e2:(m.fe.fk==x.Yp)=!(m.fe.fk != x.Yp):=by simp[bne]
  have e3:decide (x.ZK<=m.fe.fo)=!decide (m.fe.fo < x.ZK):=by grind
  have e4:decide (m.fe.fo<=x.Un)=!decide (x.Un < m.fe.fo):=by grind
  rw[e1,e2,e3,e4];refine Dp λ_=>Dp λ_=>Dp λ_=>Dp λ_=>Ok.c (gX m x h hx) λr hr=>?_;subst hr;rw[show ((m.fe.fq.size:Int)==Uy m.fe x)=!((m.fe.fq.size:Int) != Uy m.fe x) by simp[bne]];exact Dp λ_=>Ok.d rfl
 ·generalize ((m.fe.fq.size:Int)==Uy m.fe x)=A at *;generalize (x.UT==decide (0<=m.fe.fD.fB))=B at *;generalize (m.fe.fp==x.JZ)=c1 at *;generalize (m.fe.fk==x.Yp)=c2 at *;generalize decide (x.ZK<=m.fe.fo)=c3 at *;generalize decide (m.fe.fo<=x.Un)=c4 at *;subst hc;have re:(c1&&(c2&&(c3&&(c4&&(A&&(B&&(P3 m.fe x.QS&&V6 m.fe x.KA)))))))=((c1&&(c2&&(c3&&(c4&&(A&&B)))))&&(P3 m.fe x.QS&&V6 m.fe x.KA)):=by grind
  rw[re];generalize (c1&&(c2&&(c3&&(c4&&(A&&B)))))=C;cases C with
  | false=>exact Ok.t rfl (Ok.d rfl)
  | true=>
   refine Ok.f rfl ?_;rw[Bool.true_and];refine Ok.b (R:=λe=>e=P3 m.fe x.QS) ?_ λe he=>?_
   ·unfold P3;refine Ok.e (λh1=>?_) λh1=>Ok.e (λh2=>?_) λh2=>?_
    ·rw[if_pos (by simpa using h1)];refine Ok.n (R:=λc=>c=_) ?_ λc hc=>Ok.d hc;rw[Bool.and_true,show (HK m.fe.fj.fG&&(HK m.fe.fj.fR&&(HK m.fe.fj.fh&&HK m.fe.fC)))=((HK m.fe.fj.fG&&(HK m.fe.fj.fR&&HK m.fe.fj.fh))&&HK m.fe.fC) by simp only[Bool.and_assoc]];exact J5 λ_=>Ok.d rfl
    ·rw[if_neg (by simpa using h1),if_pos (by simpa using h2)];refine Ok.n (R:=λc=>c=_) ?_ λc hc=>Ok.d hc;refine Ok.v (WT _ (by simp)) λr hr=>?_;rw[show (ZA m.fe.fj.fG&&(ZA m.fe.fj.fR&&(HK m.fe.fj.fh&&HK m.fe.fC)))=(r&&(HK m.fe.fj.fh&&HK m.fe.fC)) by rw[hr];simp only[List.all_cons,List.all_nil,Bool.and_true,Bool.and_assoc];rfl];exact J5 λ_=>J5 λ_=>Ok.d rfl
    ·rw[if_neg (by simpa using h1),if_neg (by simpa using h2)];refine Ok.n (R:=λc=>c=_) ?_ λc hc=>Ok.d hc;refine Ok.v (WT _ (by simp)) λr hr=>?_;rw[show (ZA m.fe.fj.fG&&(ZA m.fe.fj.fR&&(ZA m.fe.fC&&okB m.fe.fj.fh)))=(r&&okB m.fe.fj.fh) by rw[hr];simp only[List.all_cons,List.all_nil,Bool.and_true,Bool.and_assoc];rfl];exact J5 λ_=>Ok.c (Cg _ h.pb) λr hr=>Ok.d hr
   ·subst he;unfold V6;refine Ok.e (λh1=>?_) λh1=>?_
    ·rw[if_pos (by simpa using h1)];refine Ok.n (R:=λc=>c=_) ?_ λc hc=>Ok.d hc;refine J5 λ_=>Ok.d ?_;rw[G5,Bool.eq_iff_iff];simp
    ·rw[if_neg (by simpa using h1)];refine Ok.n (R:=λc=>c=_) ?_ λc hc=>Ok.d hc;refine J5 λ_=>?_;refine Ok.e (λh2=>?_) λh2=>Ok.d ?_
     ·obtain⟨n,hn⟩:=Rx (l:=m.fe.fP) (by rw[G5] at h2;simp at h2;omega);rw[hn];refine Ok.r rfl rfl (Ok.c (NC n) λr hr=>?_);have er:(r==0)=B7 n:=by grind
      rw[er];exact J5 λ_=>Ok.r rfl rfl (J5 λ_=>Ok.r rfl rfl (Ok.d rfl))
     grind [G5]
theorem gM(m:Z0)(h:Sm m.fe):Qy (vW Y8 m) (λr=>decide (0<=r)=Y8.any (F5 m.fe)):=by
 unfold vW;refine Qy.fn ?_;unfold Qm2;refine Ok.p (R:=Sum.elim (λe=>0<=e/\Y8.any (F5 m.fe)=true) (λ_=>Y8.any (F5 m.fe)=false)) ?_ (by grind [Ok.d]) (by grind [Ok.d]);refine Ok.s Y8.length (by decide) (λk y=>y=(k:Int)/\(Y8.take k).any (F5 m.fe)=false) ⟨rfl,rfl⟩ (λk y hy hk=>?_) λy hy=>?_
 ·obtain⟨rfl,h1⟩:=hy;obtain⟨x,hx,hx'⟩:=G2 (l:=Y8) (k:=k) hk;have h2:=Ja hx' h1;refine Ok.t (by grind [G5]) (Ok.r (by simp) hx (Ok.c (gA m x h (wd hx')) λr hr=>?_));subst hr;refine Ok.e (λh=>Ok.d ?_) λh=>Ok.d ?_
  ·grind
  ·exact⟨Y0 hk (by decide),by grind⟩
 ·obtain⟨rfl,h1⟩:=hy;grind [List.take_length,Ok.f,G5,Ok.d]
theorem gN(l:List Int)(w:Int)(hl:l.length<=100):Qy (Qq8 l w) (λr=>r=l.any λx=>w==x):=by
 have h1:Qy (vK l w) (λr=>decide (0<=r)=l.any λx=>w==x):=by
  unfold vK;refine Qy.fn ?_;unfold Qm3;refine Ok.p (R:=Sum.elim (λe=>0<=e/\(l.any λx=>w==x)=true) (λ_=>(l.any λx=>w==x)=false)) ?_ (by grind [Ok.d]) (by grind [Ok.d]);refine Ok.s l.length (by omega) (λk y=>y=(k:Int)/\((l.take k).any λx=>w==x)=false) ⟨rfl,rfl⟩ (λk y hy hk=>?_) λy hy=>?_
  ·obtain⟨rfl,h1⟩:=hy;grind [G2,Ja,Ok.t,G5,Ok.r,Ok.e,Ok.d,C0,Y0]
  ·obtain⟨rfl,h1⟩:=hy;grind [List.take_length,Ok.f,G5,Ok.d]
 grind [oF,Qy.fn,Ok.c,Ok.d,Qq8,Qmv]
theorem kA(m:Z0)(h:Sm m.fe):Qy (s65 m) (λr=>r=QZ m.fe):=by
 unfold s65;refine Qy.fn ?_;unfold g65;refine Ok.b (R:=λe=>e=UY m.fe) ?_ λe he=>?_
 ·unfold UY;refine Ok.e (λh1=>Ok.v (WT _ (by simp)) λr hr=>Ok.d ?_) λh1=>Ok.d ?_
  ·rw[if_pos (by simpa using h1),hr];simp only[List.all_cons,List.all_nil,Bool.and_true];rfl
  ·rw[if_neg (by simpa using h1)];rfl
 subst he;refine Ok.b (R:=λl=>l.length<=100/\(l.any λx=>m.fe.ge==x)=Xj m.fe) ?_ λl hl=>?_
 ·unfold Xj;refine Ok.e (λh1=>Ok.g (Ok.d ?_)) λh1=>Ok.g (Ok.d ?_)
  ·grind
  grind
 refine Ok.n (R:=λc=>c=Uk m.fe) ?_ λc hc=>?_
 ·unfold Uk;rw[show decide (m.fe.fL.length<=8)=decide (I5 Z8 m.fe.fL<=8) by rw[G5];grind];exact J5 λ_=>Ok.c (kS _ (by have:=h.pr;omega)) (by grind [Ok.d,XM])
 subst hc;refine Ok.n (R:=λc=>c=(T5 m.fe.fm&&(ZA m.fe.gd&&(ZA m.fe.fZ&&(ZA m.fe.fG&&(UY m.fe&&(Uk m.fe&&okB m.fe.fh))))))) ?_ λc hc=>?_
 ·unfold T5;rw[Bool.and_assoc];refine J5 λ_=>J5 λ_=>Ok.v (WT _ (by simp)) λr hr=>?_;rw[show (ZA m.fe.gd&&(ZA m.fe.fZ&&(ZA m.fe.fG&&(UY m.fe&&(Uk m.fe&&okB m.fe.fh)))))=(r&&(UY m.fe&&(Uk m.fe&&okB m.fe.fh))) by rw[hr];simp only[List.all_cons,List.all_nil,Bool.and_true,Bool.and_assoc];rfl];exact J5 λ_=>J5 λ_=>J5 λ_=>Ok.c (Cg _ h.bd) λr hr=>Ok.d hr
 refine Ok.n (R:=λc=>c=QZ m.fe) ?_ λc hc=>Ok.d hc;unfold QZ Rt;rw[show (T5 m.fe.fm&&(ZA m.fe.gd&&(ZA m.fe.fZ&&(ZA m.fe.fG&&(UY m.fe&&(Uk m.fe&&(okB m.fe.fh&&(Zt m.fe.fD&&Xj m.fe))))))))=(c&&(Zt m.fe.fD&&Xj m.fe)) by rw[hc];simp only[Bool.and_assoc],Bool.and_assoc,Bool.and_assoc];refine J5 λ_=>Ok.c (kG _) λr hr=>?_;rw[show Zt m.fe.fD=(r==0) by rw[hr];cases Zt m.fe.fD<;>rfl];refine J5 λ_=>Ok.v (gN l _ hl.1) λr hr=>?_;rw[<-hl.2,<-hr];refine J5 λ_=>Ok.c (R:=λr=>r=Y8) ⟨_,rfl,rfl⟩ λr hr=>?_;subst hr;have h2:Qy (Qq7 Y8 m) (λr=>r=Y8.any (F5 m.fe)):=by
  grind [oF,Qy.fn,Ok.c,gM,Ok.d,Qq7,Qmt]
 grind [Ok.c,Ok.d]
theorem AF(s:Q3)(h:Sm s):Qy (tY s) (λr=>r=bif QZ s then 0 else 200):=by
 grind [oF,Qy.fn,Ok.g,Ok.v,kA,Ok.e,Ok.d,tY,g28,ByteArray.empty,QZ]
end Go.Proofs.YtjdieimefebnfaaGreatDoor
namespace Go.EV
open Go
theorem ME(n:Int):Z4 n=n % 18446744073709551616:=by
 show IntKind.u64.wrap n=_;simp[IntKind.wrap,IntKind.bits,IntKind.signed]
theorem U2{n:Int}(h0:0<=n)(h:n < 18446744073709551616):Z4 n=n:=by rw[ME];omega
theorem Iz{n:Int}(h:0<=n):∃m:Nat,n=(m:Int):=⟨n.toNat,by omega⟩
theorem aF(a b:Nat)(ha:a < 18446744073709551616)(hb:b < 18446744073709551616):U1 .u64 (a:Int) (b:Int)=((a &&& b:Nat):Int):=by
 show IntKind.u64.wrap ((BitVec.ofInt 64 (a:Int) &&& BitVec.ofInt 64 (b:Int)).toNat:Int)=_;rw[BitVec.ofInt_natCast,BitVec.ofInt_natCast,BitVec.toNat_and,BitVec.toNat_ofNat,BitVec.toNat_ofNat,Nat.mod_eq_of_lt ha,Nat.mod_eq_of_lt hb];have:=Nat.and_le_left (n:=a) (m:=b);exact U2 (by omega) (by omega)
theorem Qhp(a b:Nat)(ha:a < 18446744073709551616)(hb:b < 18446744073709551616):Zl .u64 (a:Int) (b:Int)=((a ||| b:Nat):Int):=by
 show IntKind.u64.wrap ((BitVec.ofInt 64 (a:Int) ||| BitVec.ofInt 64 (b:Int)).toNat:Int)=_;rw[BitVec.ofInt_natCast,BitVec.ofInt_natCast,BitVec.toNat_or,BitVec.toNat_ofNat,BitVec.toNat_ofNat,Nat.mod_eq_of_lt ha,Nat.mod_eq_of_lt hb];have:=Nat.or_lt_two_pow (n:=64) ha hb;exact U2 (by omega) (by omega)
theorem jI{a:Int}(h:0<=a)(k:Nat)(hk:k<=64):Z5 .u64 a (k:Int)=a / 2 ^ k:=by
 show a.fdiv (2 ^ (min (k:Int).toNat 64))=_;rw[zW,Nat.min_eq_left hk,Int.fdiv_eq_ediv_of_nonneg _ (Int.pow_nonneg (by decide))]
theorem pC(a:Int)(k:Nat)(hk:k<=64):E0 .u64 a (k:Int)=a * 2 ^ k % 18446744073709551616:=by
 show IntKind.u64.wrap (a * 2 ^ (min (k:Int).toNat 64))=_;rw[zW,Nat.min_eq_left hk];exact ME _
theorem Xz{a:Int}(h:0<=a)(h2:a < 18446744073709551616):U1 .u64 a 2251799813685247=a % 2251799813685248:=by
 obtain⟨n,rfl⟩:=Iz h;have:=aF n 2251799813685247 (by omega) (by decide);rw[show ((2251799813685247:Nat):Int)=2251799813685247 from rfl] at this;rw[this,show 2251799813685247=2 ^ 51 - 1 from rfl,Nat.and_two_pow_sub_one_eq_mod];omega
theorem aG{a:Int}(h:0<=a)(h2:a < 18446744073709551616):U1 .u64 a 4294967295=a % 4294967296:=by
 obtain⟨n,rfl⟩:=Iz h;have:=aF n 4294967295 (by omega) (by decide);rw[show ((4294967295:Nat):Int)=4294967295 from rfl] at this;rw[this,show 4294967295=2 ^ 32 - 1 from rfl,Nat.and_two_pow_sub_one_eq_mod];omega
theorem Qie{a:Int}(h:0<=a)(h2:a < 18446744073709551616):U1 .u64 a 1=a % 2:=by
 obtain⟨n,rfl⟩:=Iz h;have:=aF n 1 (by omega) (by decide);rw[show ((1:Nat):Int)=1 from rfl] at this;rw[this,Nat.and_one_is_mod];omega
theorem DE{a:Int}(h:0<=a):Z5 .u64 a 51=a / 2251799813685248:=jI h 51 (by decide)
theorem Nt{a:Int}(h:0<=a):Z5 .u64 a 32=a / 4294967296:=jI h 32 (by decide)
theorem sL{h l:Int}(h0:0<=h)(h1:h < 2251799813685248)(l0:0<=l)(l1:l < 18446744073709551616):Zl .u64 (E0 .u64 h 13) (Z5 .u64 l 51)=(h * 18446744073709551616+l) / 2251799813685248:=by
 rw[DE l0,show E0 .u64 h 13=_ from pC h 13 (by decide)];have e:h * 2 ^ 13 % 18446744073709551616=h * 8192:=by
  rw[show (2:Int) ^ 13=8192 from rfl];omega
 rw[e];obtain⟨a,rfl⟩:=Iz h0;obtain⟨b,rfl⟩:=Iz l0;have hb:b / 2251799813685248 < 2 ^ 13:=by omega
 have:=Qhp (a * 8192) (b / 2251799813685248) (by omega) (by omega);rw[show ((a * 8192:Nat):Int)=(a:Int) * 8192 by omega,show ((b / 2251799813685248:Nat):Int)=(b:Int) / 2251799813685248 by omega] at this;rw[this];have k:=Nat.two_pow_add_eq_or_of_lt hb a;rw[show a * 8192=2 ^ 13 * a by omega,<-k];omega
end Go.EV
namespace Crv
def Pr(n:Nat):Prop:=2<=n/\∀m,m ∣ n->m=1\/m=n
theorem Pr.cop{p a:Nat}(h:Pr p)(ha:¬p ∣ a):Nat.Coprime p a:=by
 rcases h.2 _ (Nat.gcd_dvd_left p a) with e|e
 ·exact e
 grind [Nat.gcd_dvd_right,absurd]
theorem bez(a b:Nat):∃x y:Int,(Nat.gcd a b:Int)=a * x+b * y:=by
 induction a,b using Nat.gcd.induction with
 | H0 n=>exact⟨0,1,by simp⟩
 | H1 m n hm ih=>
  obtain⟨x,y,e⟩:=ih;refine⟨y - (n / m:Nat) * x,x,?_⟩;rw[Nat.gcd_rec,e];have:(n:Int)=(n / m:Nat) * m+(n % m:Nat):=by
   grind [Nat.div_add_mod]
  grind
theorem Bj{a n:Nat}(h:Nat.Coprime a n)(hn:1 < n):∃x,a * x % n=1:=by
 obtain⟨x,y,e⟩:=bez a n;rw[h] at e;refine⟨(x % n).toNat,?_⟩;have hx:((x % n).toNat:Int)=x % n:=Int.toNat_of_nonneg (Int.emod_nonneg _ (by omega));have:((a * (x % n).toNat % n:Nat):Int)=1:=by
  push_cast
  rw[hx,Int.mul_emod,Int.emod_emod_of_dvd _ (Int.dvd_refl _),<-Int.mul_emod];have:(a:Int) * x=1 - n * y:=by omega
  rw[this,Int.sub_emod,Int.mul_emod_right,Int.sub_zero,Int.emod_emod_of_dvd _ (Int.dvd_refl _)];exact Int.emod_eq_of_lt (by decide) (by omega)
 omega
theorem IL{c a b n:Nat}(h:Nat.Coprime n c)(e:c * a % n=c * b % n):a % n=b % n:=by
 have key:∀a b:Nat,a<=b->c * a % n=c * b % n->a % n=b % n:=by
  intro a b hab e;obtain⟨d,rfl⟩:=Nat.le.dest hab;have:n ∣ c * d:=by
   have h3:c * (a+d) - c * a=c * d:=by grind
   grind [Nat.dvd_of_mod_eq_zero,Nat.sub_mod_eq_zero_of_mod_eq]
  obtain⟨k,rfl⟩:=h.dvd_of_dvd_mul_left this;simp_all
 rcases Nat.le_total a b with hab|hab
 ·grind
 grind
theorem ND(a p:Nat):∀l:List Nat,(l.map λi=>a * i % p).prod % p=a ^ l.length * l.prod % p
 | []=>by simp
 | x :: l=>by
  simp only[wE,List.prod_cons,wV];rw[Nat.mul_mod,ND a p l,Nat.mod_mod,<-Nat.mul_mod];congr 1;grind
theorem Bd{p a:Nat}(hp:Pr p)(ha:¬p ∣ a):a ^ (p - 1) % p=1:=by
 have h2:=hp.1;have hc:=hp.cop ha;obtain⟨l,hl0⟩:∃l,l=List.range' 1 (p - 1):=⟨_,rfl⟩
 have ml:∀b,b∈l↔0 < b/\b < p:=(by grind)
 have nl:l.Nodup:=hl0▸List.nodup_range';have hl:l.length=p - 1:=by grind
 obtain⟨x,hx⟩:=Bj hc.symm (by omega);have inj:∀i j,i < p->j < p->a * i % p=a * j % p->i=j:=(by grind [IL,Nat.mod_eq_of_lt]);have nd:(l.map λi=>a * i % p).Nodup:=by
  grind [List.Pairwise.imp_of_mem,List.Nodup]
 have pm:(l.map λi=>a * i % p).Perm l:=by
  rw[List.perm_ext_iff_of_nodup nd nl];intro b;rw[zP,ml];constructor
  ·rintro⟨i,hi,rfl⟩;obtain⟨i0,i1⟩:=(ml i).1 hi;refine⟨Nat.pos_of_ne_zero λe=>?_,Nat.mod_lt _ (by omega)⟩;have:=inj i 0 i1 (by omega) (by rw[e];simp);omega
  ·rintro⟨b0,b1⟩;have e:a * (x * b % p) % p=b:=by
    rw[Nat.mul_mod,Nat.mod_mod,<-Nat.mul_mod,<-Nat.mul_assoc,Nat.mul_mod,hx,Nat.one_mul,Nat.mod_mod,Nat.mod_eq_of_lt b1]
   refine⟨x * b % p,(ml _).2 ⟨Nat.pos_of_ne_zero λh0=>?_,Nat.mod_lt _ (by omega)⟩,e⟩;simp_all
 have e:=ND a p l;rw[List.Perm.prod_nat pm,hl] at e;have cp:∀m:List Nat,(∀b,b∈m->¬p ∣ b)->Nat.Coprime p m.prod:=by
  intro m;induction m with
  | nil=>intro _;simp
  | cons y m ih=>
   intro h;rw[List.prod_cons];exact Nat.Coprime.mul_right (hp.cop (h y List.mem_cons_self)) (by grind)
 have hcp:=cp l λb hb hd=>by
  obtain⟨b0,b1⟩:=(ml b).1 hb;have:=Nat.le_of_dvd b0 hd;omega
 have:=IL (a:=1) (b:=a ^ (p - 1)) hcp (by grind);grind [Nat.mod_eq_of_lt]
theorem CV{r n x y:Nat}(h:r ∣ n)(e:x % n=y % n):x % r=y % r:=by
 rw[<-Nat.mod_mod_of_dvd x h,e,Nat.mod_mod_of_dvd y h]
theorem sH(n:Nat):2<=n->∃r,Pr r/\r ∣ n:=by
 induction n using Nat.strongRecOn with
 | _ n ih=>
  intro h;by_cases hp:Pr n
  ·grind [Nat.dvd_refl]
  ·obtain⟨m,hm⟩:=Classical.not_forall.1 λh2=>hp ⟨h,h2⟩;rw[Classical.not_imp,not_or] at hm;obtain⟨hd,h1,h2⟩:=hm;have:=Nat.le_of_dvd (by omega) hd;have:m≠0:=(by grind [Nat.zero_dvd]);obtain⟨r,hr,hr2⟩:=ih m (by omega) (by omega);grind [Nat.dvd_trans]
theorem sU{n:Nat}(h:2<=n)(hp:¬Pr n):∃r,Pr r/\r ∣ n/\r * r<=n:=by
 obtain⟨m,hm⟩:=Classical.not_forall.1 λh2=>hp ⟨h,h2⟩;rw[Classical.not_imp,not_or] at hm;obtain⟨⟨k,rfl⟩,h1,h2⟩:=hm;have m0:m≠0:=(by grind);have k0:k≠0:=(by grind);have k1:k≠1:=(by grind);rcases Nat.le_total m k with h5|h5
 ·obtain⟨r,hr,hd⟩:=sH m (by omega);have:=Nat.le_of_dvd (by omega) hd;exact⟨r,hr,(by grind),Nat.le_trans (Nat.mul_le_mul this this) (Nat.mul_le_mul_left _ h5)⟩
 ·obtain⟨r,hr,hd⟩:=sH k (by omega);grind [Nat.le_of_dvd,Nat.dvd_trans,Nat.mul_comm,Nat.le_trans,Nat.mul_le_mul,Nat.mul_le_mul_right]
theorem Qql{t r q:Nat}(hr:Pr r)(hq:Pr q)(h1:t ^ q % r=1)(h2:t ^ (r - 1) % r=1)(hn:¬q ∣ r - 1):t % r=1:=by
 have h3:=hr.1;by_cases h4:r - 1=1
 ·simp_all
 obtain⟨x,hx⟩:=Bj (hq.cop hn) (by omega);obtain⟨y,hy⟩:∃y,q * x=(r - 1) * y+1:=⟨q * x / (r - 1),by grind [Nat.div_add_mod]⟩;have e1:t ^ (q * x) % r=1:=by rw[Nat.pow_mul,Nat.pow_mod,h1,Nat.one_pow,Nat.mod_eq_of_lt (by omega)]
 have e2:t ^ ((r - 1) * y) % r=1:=by rw[Nat.pow_mul,Nat.pow_mod,h2,Nat.one_pow,Nat.mod_eq_of_lt (by omega)]
 simp_all [Nat.pow_succ,Nat.mul_mod,Nat.one_mul,Nat.mod_mod]
theorem dvd_pow{a k:Nat}(h:k≠0):a ∣ a ^ k:=by
 obtain⟨k,rfl⟩:=Nat.exists_eq_succ_of_ne_zero h;exact⟨a ^ k,by grind⟩
theorem Qdt{n q m a K:Nat}(h2:2<=n)(hn:n - 1=m * q)(hq:Pr q)(h1:a ^ (n - 1) % n=1)(hg:Nat.Coprime (a ^ m % n+(n - 1)) n)(hK:∀j,j < K->j≠0->n % (j * q+1)≠0)(hs:n < (K * q+1) * (K * q+1)):Pr n:=by
 refine wY λhp=>?_;obtain⟨r,hr,hd,hrr⟩:=sU h2 hp;have r2:=hr.1;have ha:¬r ∣ a:=λh=>by
  have e:=CV (y:=1) hd (by rw[h1,Nat.mod_eq_of_lt (by omega)]);grind [Nat.mod_eq_zero_of_dvd,Nat.dvd_trans,dvd_pow,Nat.mod_eq_of_lt]
 have e1:(a ^ m) ^ q % r=1:=by
  grind [Nat.pow_mul,CV,Nat.mod_eq_of_lt]
 have ham:¬r ∣ a ^ m:=(by grind [Nat.mod_eq_zero_of_dvd,Nat.dvd_trans,dvd_pow]);by_cases hqr:q ∣ r - 1
 ·obtain⟨j,hj⟩:=hqr;have hr1:r=j * q+1:=by grind
  have j0:j≠0:=(by grind);by_cases hjK:j < K
  ·grind [Nat.mod_eq_zero_of_dvd]
  ·have:K * q+1<=r:=by rw[hr1];exact Nat.succ_le_succ (wT _ (by omega))
   have:=Nat.mul_le_mul this this;omega
 ·have t1:=Qql hr hq e1 (Bd hr ham) hqr;have:r ∣ a ^ m % n+(n - 1):=by
   refine Nat.dvd_of_mod_eq_zero ?_;rw[Nat.add_mod,Nat.mod_mod_of_dvd _ hd,t1];obtain⟨k,rfl⟩:=hd;have k0:k≠0:=(by grind);have:r * k - 1=(r - 1)+r * (k - 1):=by
    obtain⟨k,rfl⟩:=Nat.exists_eq_succ_of_ne_zero k0;grind
   rw[this,Nat.add_mul_mod_self_left,Nat.mod_eq_of_lt (by omega:r - 1 < r),show 1+(r - 1)=r by omega,Nat.mod_self]
  have h9:=Nat.dvd_gcd this hd;simp_all
def pw(n:Nat):Nat->Nat->Nat->Nat->Nat
 | 0,_,_,c=>c
 | k+1,a,e,c=>bif e==0 then c else pw n k (a * a % n) (e / 2) (bif e % 2==1 then c * a % n else c)
theorem Lz{n:Nat}:∀(k a e c:Nat),e < 2 ^ k->pw n k a e c % n=c * a ^ e % n
 | 0,a,e,c,h=>by
  simp_all [pw]
 | k+1,a,e,c,h=>by
  unfold pw;by_cases h0:e=0
  ·simp[h0]
  rw[show (e==0)=false by simpa using h0,cond_false,Lz k _ _ _ (by grind)];have e1:(a * a % n) ^ (e / 2) % n=a ^ (2 * (e / 2)) % n:=by rw[<-Nat.pow_mod,Nat.pow_mul,Nat.pow_two]
  rcases Nat.mod_two_eq_zero_or_one e with h2|h2
  ·rw[h2,show ((0:Nat)==1)=false from rfl,cond_false,Nat.mul_mod,e1,<-Nat.mul_mod,show 2 * (e / 2)=e by omega]
  ·rw[h2,show ((1:Nat)==1)=true from rfl,cond_true,Nat.mul_mod,Nat.mod_mod,e1,<-Nat.mul_mod,Nat.mul_assoc,<-Nat.pow_succ',show (2 * (e / 2)).succ=e by omega]
def sW(n q m a K:Nat):Bool:=
 Nat.ble 2 n&&(n - 1==m * q&&(Nat.blt (n - 1) (2 ^ 256)&&(Nat.blt m (2 ^ 256)&&(pw n 256 a (n - 1) 1 % n==1&&(Nat.gcd (pw n 256 a m 1 % n+(n - 1)) n==1&&(((List.range K).all λj=>j==0 || n % (j * q+1) != 0)&&Nat.blt n ((K * q+1) * (K * q+1))))))))
theorem S5{n q m a K:Nat}(hq:Pr q)(h:sW n q m a K=true):Pr n:=by
 unfold sW at h;simp only[zL,beq_iff_eq,zN,List.mem_range,wi,bne_iff_ne,Nat.ble_eq,Nat.blt_eq] at h;obtain⟨h2,hn,b1,b2,h1,hg,hK,hs⟩:=h;rw[Lz _ _ _ _ b1,Nat.one_mul] at h1;rw[Lz _ _ _ _ b2,Nat.one_mul] at hg;grind [Qdt]
theorem small{n:Nat}(h:(Nat.ble 2 n&&((List.range 60).all λd=>Nat.ble d 1 || n % d != 0 || d==n)&&Nat.blt n 3600)=true):Pr n:=by
 simp only[zL,zN,List.mem_range,wi,bne_iff_ne,beq_iff_eq,Nat.ble_eq,Nat.blt_eq] at h;obtain⟨⟨h2,ha⟩,hs⟩:=h;refine wY λhp=>?_;obtain⟨r,hr,hd,hrr⟩:=sU h2 hp;have r2:=hr.1;have:r < 60:=by
  refine Nat.lt_of_not_le λh=>?_;have:=Nat.mul_le_mul h h;omega
 rcases ha r this with(h|h)|h
 ·omega
 ·exact h (Nat.mod_eq_zero_of_dvd hd)
 grind
def AH:Nat:=2 ^ 255 - 19
def Bo:Nat:=2 ^ 252+27742317777372353535851937790883648493
theorem Qhf:Pr AH:=
 S5 (q:=74058212732561358302231226437062788676166966415465897661863160754340907) (m:=781764) (a:=2) (K:=1)
 (S5 (q:=75445702479781427272750846543864801) (m:=981609426360740691344999861639072106) (a:=2) (K:=4)
 (S5 (q:=1919519569386763) (m:=39304471641247389600) (a:=2) (K:=144)
 (S5 (q:=8574133) (m:=223873314) (a:=2) (K:=6)
 (S5 (q:=991) (m:=8652) (a:=2) (K:=3) (small (by decide +kernel)) (by decide +kernel)) (by decide +kernel)) (by decide +kernel)) (by decide +kernel)) (by decide +kernel)
theorem Qqf:Pr Bo:=
 S5 (q:=276602624281642239937218680557139826668747) (m:=26163907866482859529727157400808004) (a:=2) (K:=1)
 (S5 (q:=19757330305831588566944191468367130476339) (m:=14) (a:=2) (K:=1)
 (S5 (q:=172054593956031949258510691) (m:=114831751082918) (a:=2) (K:=1)
 (S5 (q:=4434155615661930479) (m:=38802110) (a:=2) (K:=1)
 (S5 (q:=1257559732178653) (m:=3526) (a:=2) (K:=1)
 (S5 (q:=1224481) (m:=1027014492) (a:=2) (K:=29)
 (S5 (q:=2551) (m:=480) (a:=2) (K:=1) (small (by decide +kernel)) (by decide +kernel)) (by decide +kernel)) (by decide +kernel)) (by decide +kernel)) (by decide +kernel)) (by decide +kernel)) (by decide +kernel)
end Crv
namespace Crv
section
def VY{pp:Nat}[NeZero pp](a:Fin pp):Fin pp:=⟨a.val ^ (pp - 2) % pp,Nat.mod_lt _ (Nat.pos_of_ne_zero (NeZero.ne pp))⟩
class Fd (pp:Nat) [NeZero pp]:Prop where
 CK:∀a:Fin pp,a≠0->a * VY a=1
 inv_zero:VY (0:Fin pp)=0
 GC:(0:Fin pp)≠1
variable {pp:Nat} [NeZero pp] [Fd pp]
instance Qwi:Inv (Fin pp):=⟨VY⟩
theorem Z9{a:Fin pp}(h:a≠0):a * a⁻¹=1:=Fd.CK a h
theorem inv_mul_cancel{a:Fin pp}(h:a≠0):a⁻¹ * a=1:=by have:=Z9 h;grind
theorem inv_zero:(0:Fin pp)⁻¹=0:=Fd.inv_zero
theorem zero_ne_one:(0:Fin pp)≠1:=Fd.GC
theorem nzd{a b:Fin pp}(h:a * b=0)(ha:a≠0):b=0:=by have:=Z9 ha;grind
structure Good(d i:(Fin pp)):Prop where
 root:i * i=-1
 non:∀z:(Fin pp),z * z≠d
 two:(2:(Fin pp))≠0
def On(d x y:(Fin pp)):Prop:=y * y - x * x=1+d * x * x * y * y
theorem sq0{d a b:(Fin pp)}(hd:∀z:(Fin pp),z * z≠d)(h:d * a * a=b * b):a=0:=by
 refine wY λha=>hd (b * a⁻¹) ?_;grind [Z9]
theorem bZ{d i x1 y1 x2 y2 e:(Fin pp)}(g:Good d i)(h1:On d x1 y1)(h2:On d x2 y2)(he:e * e=1):d * x1 * x2 * y1 * y2≠e:=by
 intro hk;unfold On at h1 h2;obtain⟨hi,hd,h20⟩:=g;have k1:d * (x1 * y1 * (y2+i * x2)) * (x1 * y1 * (y2+i * x2))=(y1+i * e * x1) * (y1+i * e * x1):=by grind
 have k2:d * (x1 * y1 * (y2 - i * x2)) * (x1 * y1 * (y2 - i * x2))=(y1 - i * e * x1) * (y1 - i * e * x1):=by grind
 have a1:=sq0 hd k1;have a2:=sq0 hd k2;grind
theorem den{d i x1 y1 x2 y2:(Fin pp)}(g:Good d i)(h1:On d x1 y1)(h2:On d x2 y2):1+d * x1 * x2 * y1 * y2≠0/\1 - d * x1 * x2 * y1 * y2≠0:=by
 have a:=bZ (e:=-1) g h1 h2 (by grind);have b:=bZ (e:=1) g h1 h2 (by grind);grind
structure Pt(G:Type) where
 x:G
 y:G
theorem Pt.ext{p q:Pt (Fin pp)}(hx:p.x=q.x)(hy:p.y=q.y):p=q:=by cases p;cases q;simp_all
def add(d:(Fin pp))(p q:Pt (Fin pp)):Pt (Fin pp):=⟨(p.x * q.y+q.x * p.y) * (1+d * p.x * q.x * p.y * q.y)⁻¹,(p.y * q.y+p.x * q.x) * (1 - d * p.x * q.x * p.y * q.y)⁻¹⟩
def O:Pt (Fin pp):=⟨0,1⟩
abbrev Kr(d:(Fin pp))(p:Pt (Fin pp)):Prop:=On d p.x p.y
theorem Qx1(d:(Fin pp)):Kr d O:=by grind [On,O]
theorem LH(d:(Fin pp))(p:Pt (Fin pp)):add d p O=p:=by
 have h:(1:(Fin pp))⁻¹=1:=by grind [Z9,zero_ne_one]
 have e1:1+d * p.x * 0 * p.y * 1=1:=by grind
 have e2:1 - d * p.x * 0 * p.y * 1=1:=by grind
 apply Pt.ext<;>simp only[add,O,e1,e2,h]<;>grind
theorem add_comm(d:(Fin pp))(p q:Pt (Fin pp)):add d p q=add d q p:=by
 have e1:d * p.x * q.x * p.y * q.y=d * q.x * p.x * q.y * p.y:=by grind
 grind [Pt.ext,add]
set_option maxHeartbeats 4000000 in
theorem closed(d x1 y1 x2 y2:(Fin pp))(h1:y1*y1 - x1*x1=1+d*x1*x1*y1*y1)(h2:y2*y2 - x2*x2=1+d*x2*x2*y2*y2) :
 (y1*y2+x1*x2)*(y1*y2+x1*x2)*((1+d*x1*x2*y1*y2)*(1+d*x1*x2*y1*y2)) - (x1*y2+x2*y1)*(x1*y2+x2*y1)*((1-d*x1*x2*y1*y2)*(1-d*x1*x2*y1*y2))=(1+d*x1*x2*y1*y2)*(1+d*x1*x2*y1*y2)*((1-d*x1*x2*y1*y2)*(1-d*x1*x2*y1*y2))+d*((x1*y2+x2*y1)*(x1*y2+x2*y1))*((y1*y2+x1*x2)*(y1*y2+x1*x2)):=by
 grind
theorem FU{d i:(Fin pp)}(g:Good d i){p q:Pt (Fin pp)}(hp:Kr d p)(hq:Kr d q):Kr d (add d p q):=by
 obtain⟨n1,n2⟩:=den g hp hq;have c:=closed d p.x p.y q.x q.y hp hq;have i1:=Z9 n1;have i2:=Z9 n2;simp only[Kr,On,add];generalize (1+d * p.x * q.x * p.y * q.y)⁻¹=u at i1 ⊢;generalize (1 - d * p.x * q.x * p.y * q.y)⁻¹=v at i2 ⊢;generalize 1+d * p.x * q.x * p.y * q.y=k at c i1 ⊢;grind
set_option maxHeartbeats 4000000 in
theorem Quz(d x1 y1 x2 y2 x3 y3:(Fin pp))(h1:y1*y1 - x1*x1=1+d*x1*x1*y1*y1)(h2:y2*y2 - x2*x2=1+d*x2*x2*y2*y2)(h3:y3*y3 - x3*x3=1+d*x3*x3*y3*y3) :
 ((x1*y2+x2*y1)*(1-d*x1*x2*y1*y2)*y3+x3*(y1*y2+x1*x2)*(1+d*x1*x2*y1*y2)) * ((1-d*x2*x3*y2*y3*(d*x2*x3*y2*y3))+d*(x2*y3+x3*y2)*(y2*y3+x2*x3)*x1*y1)
=(x1*(y2*y3+x2*x3)*(1+d*x2*x3*y2*y3)+y1*(x2*y3+x3*y2)*(1-d*x2*x3*y2*y3)) * ((1-d*x1*x2*y1*y2*(d*x1*x2*y1*y2))+d*(x1*y2+x2*y1)*(y1*y2+x1*x2)*x3*y3):=by
 grind
set_option maxHeartbeats 4000000 in
theorem Quq(d x1 y1 x2 y2 x3 y3:(Fin pp))(h1:y1*y1 - x1*x1=1+d*x1*x1*y1*y1)(h2:y2*y2 - x2*x2=1+d*x2*x2*y2*y2)(h3:y3*y3 - x3*x3=1+d*x3*x3*y3*y3) :
 ((y1*y2+x1*x2)*(1+d*x1*x2*y1*y2)*y3+x3*(x1*y2+x2*y1)*(1-d*x1*x2*y1*y2)) * ((1-d*x2*x3*y2*y3*(d*x2*x3*y2*y3)) - d*(x2*y3+x3*y2)*(y2*y3+x2*x3)*x1*y1)
=(y1*(y2*y3+x2*x3)*(1+d*x2*x3*y2*y3)+x1*(x2*y3+x3*y2)*(1-d*x2*x3*y2*y3)) * ((1-d*x1*x2*y1*y2*(d*x1*x2*y1*y2)) - d*(x1*y2+x2*y1)*(y1*y2+x1*x2)*x3*y3):=by
 grind
theorem Qi2{a b c d:(Fin pp)}(hb:b≠0)(hd:d≠0)(h:a * d=c * b):a * b⁻¹=c * d⁻¹:=by
 grind [Z9]
theorem Pw{d i:(Fin pp)}(g:Good d i){p q r:Pt (Fin pp)}(hp:Kr d p)(hq:Kr d q)(hr:Kr d r) :
  (1 - d * p.x * q.x * p.y * q.y * (d * p.x * q.x * p.y * q.y))+d * (p.x * q.y+q.x * p.y) * (p.y * q.y+p.x * q.x) * r.x * r.y≠0/\
  (add d (add d p q) r).x * ((1 - d * p.x * q.x * p.y * q.y * (d * p.x * q.x * p.y * q.y))+d * (p.x * q.y+q.x * p.y) * (p.y * q.y+p.x * q.x) * r.x * r.y) =
  (p.x * q.y+q.x * p.y) * (1 - d * p.x * q.x * p.y * q.y) * r.y+r.x * (p.y * q.y+p.x * q.x) * (1+d * p.x * q.x * p.y * q.y):=by
 obtain⟨n1,n2⟩:=den g hp hq;obtain⟨m1,m2⟩:=den g (FU g hp hq) hr;have i1:=Z9 n1;have i2:=Z9 n2;have i3:=Z9 m1;simp only[add] at m1 i3 ⊢;grind
theorem Ph{d i:(Fin pp)}(g:Good d i){p q r:Pt (Fin pp)}(hp:Kr d p)(hq:Kr d q)(hr:Kr d r) :
  (1 - d * p.x * q.x * p.y * q.y * (d * p.x * q.x * p.y * q.y)) - d * (p.x * q.y+q.x * p.y) * (p.y * q.y+p.x * q.x) * r.x * r.y≠0/\
  (add d (add d p q) r).y * ((1 - d * p.x * q.x * p.y * q.y * (d * p.x * q.x * p.y * q.y)) - d * (p.x * q.y+q.x * p.y) * (p.y * q.y+p.x * q.x) * r.x * r.y) =
  (p.y * q.y+p.x * q.x) * (1+d * p.x * q.x * p.y * q.y) * r.y+r.x * (p.x * q.y+q.x * p.y) * (1 - d * p.x * q.x * p.y * q.y):=by
 obtain⟨n1,n2⟩:=den g hp hq;obtain⟨m1,m2⟩:=den g (FU g hp hq) hr;have i1:=Z9 n1;have i2:=Z9 n2;have i3:=Z9 m2;simp only[add] at m2 i3 ⊢;grind
theorem quot{a b m n r s:(Fin pp)}(hm:m≠0)(hn:n≠0)(h1:r * m=a)(h2:s * n=b)(h:a * n=b * m):r=s:=by
 have:=Z9 hm;have:=Z9 hn;grind
theorem assoc{d i:(Fin pp)}(g:Good d i){p q r:Pt (Fin pp)}(hp:Kr d p)(hq:Kr d q)(hr:Kr d r):add d (add d p q) r=add d p (add d q r):=by
 rw[add_comm d p (add d q r)];apply Pt.ext
 ·obtain⟨n1,e1⟩:=Pw g hp hq hr;obtain⟨n2,e2⟩:=Pw g hq hr hp;refine quot n1 n2 e1 e2 ?_;have h:=Quz d p.x p.y q.x q.y r.x r.y hp hq hr;grind
 ·obtain⟨n1,e1⟩:=Ph g hp hq hr;obtain⟨n2,e2⟩:=Ph g hq hr hp;refine quot n1 n2 e1 e2 ?_;have h:=Quq d p.x p.y q.x q.y r.x r.y hp hq hr;grind
def mul(d:(Fin pp))(p:Pt (Fin pp)):Nat->Pt (Fin pp)
 | 0=>O
 | n+1=>add d (mul d p n) p
theorem ET{d i:(Fin pp)}(g:Good d i){p:Pt (Fin pp)}(hp:Kr d p)(n:Nat):Kr d (mul d p n):=by
 induction n with
 | zero=>exact Qx1 d
 | succ n ih=>exact FU g ih hp
theorem mul_add{d i:(Fin pp)}(g:Good d i){p:Pt (Fin pp)}(hp:Kr d p)(m n:Nat):add d (mul d p m) (mul d p n)=mul d p (m+n):=by
 induction n with
 | zero=>exact LH d _
 | succ n ih=>
  grind [assoc,ET,add,mul]
theorem Eh{d i:(Fin pp)}(g:Good d i){p:Pt (Fin pp)}(hp:Kr d p)(m n:Nat):mul d (mul d p m) n=mul d p (m * n):=by
 induction n with
 | zero=>rfl
 | succ n ih=>
  grind [mul_add,add,mul]
def Qz(a b:(Fin pp))(q:Pt (Fin pp)):Prop:=∃l:(Fin pp),l≠0/\a=l * (1+q.y)/\b=l * (1 - q.y)
def xW(c:(Fin pp))(a b:(Fin pp)):(Fin pp)×(Fin pp):=
 let s:=(a+b) * (a+b);let m:=(a - b) * (a - b);let e:=s - m
 (s * m,e * (s+e * c))
def iN(u:(Fin pp))(a b c d:(Fin pp)):(Fin pp)×(Fin pp):=
 let f:=(c - d) * (a+b);let g:=(c+d) * (a - b)
 ((f+g) * (f+g),u * ((f - g) * (f - g)))
theorem Qud{d i:(Fin pp)}(g:Good d i){q:Pt (Fin pp)}(hq:Kr d q):1+2 * d * (q.y * q.y) - d * (q.y * q.y) * (q.y * q.y)≠0/\(add d q q).y * (1+2 * d * (q.y * q.y) - d * (q.y * q.y) * (q.y * q.y))=d * (q.y * q.y) * (q.y * q.y)+2 * (q.y * q.y) - 1:=by
 obtain⟨n1,n2⟩:=den g hq hq;have i2:=Z9 n2;have hm:(1:(Fin pp))+d * (q.y * q.y)≠0:=by
  intro h;obtain⟨hi,hd,h2⟩:=g;have:q.y≠0:=by grind
  have:=Z9 this;exact hd (i * q.y⁻¹) (by grind)
 have ho:q.y * q.y - q.x * q.x=1+d * q.x * q.x * q.y * q.y:=hq;grind [Z9,add]
theorem nz{a b:(Fin pp)}(ha:a≠0)(hb:b≠0):a * b≠0:=by
 have:=Z9 ha;grind
theorem Ig{a:(Fin pp)}(ha:a≠0):a⁻¹≠0:=by
 grind [Z9,zero_ne_one]
theorem Ck{d i c:(Fin pp)}(g:Good d i)(hc:d * (1+c)=-c)(hc1:1+c≠0){a b:(Fin pp)}{q:Pt (Fin pp)}(hq:Kr d q)(h:Qz a b q):Qz (xW c a b).1 (xW c a b).2 (add d q q):=by
 obtain⟨l,hl,rfl,rfl⟩:=h;obtain⟨n,e⟩:=Qud g hq;have h2:=g.two;unfold Qz;generalize (add d q q).y=Y at *;generalize q.y=y at *;have h2i:=Z9 h2;refine⟨2 * 2 * 2 * (l * l * (l * l)) * ((1+c) * (1+2 * d * (y * y) - d * (y * y) * (y * y))),?_,?_,?_⟩
 ·grind [nz]
 ·grind [xW]
 grind [xW]
set_option maxHeartbeats 4000000 in
theorem rR(d y1 y2 x1 x2 w t:(Fin pp))(h1:y1*y1 - x1*x1=1+d*x1*x1*y1*y1)(h2:y2*y2 - x2*x2=1+d*x2*x2*y2*y2)(ht:t=y1*y2)(hw:w=x1*x2) :
   (1-d*w*t+t+w)*(1+d*w*t+t-w)*((y1-y2)*(y1-y2))=(1-d*w*t-t-w)*(1+d*w*t-t+w)*((y1+y2)*(y1+y2)):=by grind
def neg(p:Pt (Fin pp)):Pt (Fin pp):=⟨-p.x,p.y⟩
theorem AM{d:(Fin pp)}{p:Pt (Fin pp)}(h:Kr d p):Kr d (neg p):=by
 have:On d p.x p.y:=h;simp only[Kr,On,neg] at *;grind
theorem add_neg{d i:(Fin pp)}(g:Good d i){p:Pt (Fin pp)}(h:Kr d p):add d (neg p) p=O:=by
 obtain⟨n1,n2⟩:=den g (AM h) h;have ho:p.y * p.y - p.x * p.x=1+d * p.x * p.x * p.y * p.y:=h;grind [Z9,Pt.ext,neg,add,O]
theorem cancel{a b c:(Fin pp)}(h:c≠0)(e:c * a=c * b):a=b:=by
 have:=Z9 h;grind
theorem Qag{A B s t m w Y Z:(Fin pp)}(nA:A≠0)(nB:B≠0)(sy:s * A=m+w)(py:t * B=m - w)(D:(A+m+w) * (B+m - w) * Z=(A - m - w) * (B - m+w) * Y):(1 - s) * Y * (1 - t)=(1+s) * Z * (1+t):=by
 refine cancel (nz nA nB) ?_;grind
theorem CN{A K I t:(Fin pp)}(e:t=A * I)(j:K * I=1):t * K=A:=by grind
theorem hs5{t Y Z s:(Fin pp)}(h:(1 - s) * Y * (1 - t)=(1+s) * Z * (1+t)):(1 - t) * (Y * (1 - s))=Z * (1+s) * (1+t):=by grind
theorem Cw{d i:(Fin pp)}(g:Good d i){u:(Fin pp)}(hu:u≠0){p q r:Pt (Fin pp)}(hp:Kr d p)(hq:Kr d q)(hr:r=add d q p)(hpu:u * (1 - p.y)=1+p.y){a b a' b':(Fin pp)}(h1:Qz a b q)(h2:Qz a' b' r) :
  Qz (iN u a b a' b').1 (iN u a b a' b').2 (add d q r):=by
 have onr:Kr d r:=hr▸FU g hq hp;obtain⟨l,hl,rfl,rfl⟩:=h1;obtain⟨m,hm,rfl,rfl⟩:=h2;have h20:=g.two;have h2i:=Z9 h20;have hpe:p=add d (neg q) r:=by
  grind [assoc,AM,add_neg,add_comm,LH]
 obtain⟨n1,n2⟩:=den g hq onr;obtain⟨m1,m2⟩:=den g (AM hq) onr;have i2:=Z9 n2;have j2:=Z9 m2;have D:=rR d q.y r.y q.x r.x (q.x * r.x) (q.y * r.y) hq onr rfl rfl;have py:p.y * (1+d * (q.x * r.x) * (q.y * r.y))=q.y * r.y - q.x * r.x:=by
  have e:p.y=(q.y * r.y+-q.x * r.x) * (1 - d * -q.x * r.x * q.y * r.y)⁻¹:=congrArg Pt.y hpe;simp only[neg] at j2;have e3:1 - d * -q.x * r.x * q.y * r.y=1+d * (q.x * r.x) * (q.y * r.y):=by grind
  rw[e3] at e j2;rw[CN e j2];grind
 have sy:(add d q r).y * (1 - d * (q.x * r.x) * (q.y * r.y))=q.y * r.y+q.x * r.x:=by
  have e4:1 - d * (q.x * r.x) * (q.y * r.y)=1 - d * q.x * r.x * q.y * r.y:=by grind
  rw[e4];exact CN rfl i2
 have nA:1 - d * (q.x * r.x) * (q.y * r.y)≠0:=by grind
 have nB:1+d * (q.x * r.x) * (q.y * r.y)≠0:=by grind
 have p1:1 - p.y≠0:=by
  grind
 have hw:q.y=0->r.y=0->q.x * r.x * (q.x * r.x)=1:=by
  intro a b;have k1:q.y * q.y - q.x * q.x=1+d * q.x * q.x * q.y * q.y:=hq;have k2:r.y * r.y - r.x * r.x=1+d * r.x * r.x * r.y * r.y:=onr;grind
 unfold Qz;simp only[iN];generalize (add d q r).y=s at *;generalize p.y=t at *;generalize q.y=y at *;generalize r.y=z at *;generalize q.x * r.x=w at *;have hfs:=Qag nA nB sy py D;have t1:1+t≠0:=by grind [nz]
 have hnz:y+z=0->z - y=0->False:=by
  intro k1 k2;have e1:(2:(Fin pp)) * y=0:=by grind
  have e2:y=0:=nzd e1 h20;grind [nz]
 have hs:(y+z) * (y+z) * (1 - s)=u * ((z - y) * (z - y)) * (1+s):=by
  refine cancel p1 ?_;have e:(1 - t) * (u * ((z - y) * (z - y)) * (1+s))=(z - y) * (z - y) * (1+s) * (u * (1 - t)):=by grind
  grind [hs5]
 have c1:((m * (1+z) - m * (1 - z)) * (l * (1+y)+l * (1 - y))+(m * (1+z)+m * (1 - z)) * (l * (1+y) - l * (1 - y)))=2 * 2 * (l * m) * (y+z):=by grind
 have c2:((m * (1+z) - m * (1 - z)) * (l * (1+y)+l * (1 - y)) - (m * (1+z)+m * (1 - z)) * (l * (1+y) - l * (1 - y)))=2 * 2 * (l * m) * (z - y):=by grind
 rw[c1,c2];clear c1 c2 hfs D py sy nA nB;have lm:2 * 2 * (l * m)≠0:=nz (nz h20 h20) (nz hl hm);generalize 2 * 2 * (l * m)=k at *;generalize hY:(y+z) * (y+z)=Y at *;generalize hZ:(z - y) * (z - y)=Z at *;refine⟨(2:(Fin pp))⁻¹ * (k * k) * (Y+u * Z),?_,?_,?_⟩
 ·refine nz (nz (Ig h20) (nz lm lm)) λh=>?_;have k2:(2:(Fin pp)) * Y=(Y+u * Z) * (1+s):=by grind
  rw[h] at k2;have k3:(2:(Fin pp)) * Y=0:=by grind
  have y0:Y=0:=nzd k3 h20;have z0:u * Z=0:=by grind
  refine hnz (wY λn=>nz n n (hY.trans y0)) (wY λn=>nz hu (nz n n) (by grind))
 ·grind
 grind
def qA(c u:(Fin pp))(bit:Bool)(s:(Fin pp)×(Fin pp)×(Fin pp)×(Fin pp)):(Fin pp)×(Fin pp)×(Fin pp)×(Fin pp):=
 bif bit then ((iN u s.2.2.1 s.2.2.2 s.1 s.2.1).1,(iN u s.2.2.1 s.2.2.2 s.1 s.2.1).2,(xW c s.2.2.1 s.2.2.2).1,(xW c s.2.2.1 s.2.2.2).2)
 else ((xW c s.1 s.2.1).1,(xW c s.1 s.2.1).2,(iN u s.1 s.2.1 s.2.2.1 s.2.2.2).1,(iN u s.1 s.2.1 s.2.2.1 s.2.2.2).2)
def mT(c u:(Fin pp))(l:List Bool)(s:(Fin pp)×(Fin pp)×(Fin pp)×(Fin pp)):(Fin pp)×(Fin pp)×(Fin pp)×(Fin pp):=l.foldl (λs b=>qA c u b s) s
def Hv(l:List Bool)(n:Nat):Nat:=l.foldl (λn b=>2 * n+b.toNat) n
structure DH(d i c u:(Fin pp))(p:Pt (Fin pp)):Prop where
 Kt:Good d i
 hc:d * (1+c)=-c
 hc1:1+c≠0
 on:Kr d p
 u0:u≠0
 hu:u * (1 - p.y)=1+p.y
theorem cF{d i c u:(Fin pp)}{p:Pt (Fin pp)}(B:DH d i c u p){s:(Fin pp)×(Fin pp)×(Fin pp)×(Fin pp)}{n:Nat}(b:Bool)(h1:Qz s.1 s.2.1 (mul d p n))(h2:Qz s.2.2.1 s.2.2.2 (mul d p (n+1))) :
  Qz (qA c u b s).1 (qA c u b s).2.1 (mul d p (2 * n+b.toNat))/\Qz (qA c u b s).2.2.1 (qA c u b s).2.2.2 (mul d p (2 * n+b.toNat+1)):=by
 obtain⟨g,hc,hc1,on,u0,hu⟩:=B;have o1:=ET g on n;have o2:=ET g on (n+1);cases b with
 | false=>
  refine⟨?_,?_⟩
  ·have:=Ck g hc hc1 o1 h1;rw[mul_add g on] at this;rw[show 2 * n+false.toNat=n+n by simp;omega];exact this
  ·have:=Cw g u0 on o1 (r:=mul d p (n+1)) rfl hu h1 h2;rw[mul_add g on] at this;rw[show 2 * n+false.toNat+1=n+(n+1) by simp;omega];exact this
 | true=>
  refine⟨?_,?_⟩
  ·have hr:mul d p n=add d (mul d p (n+1)) (neg p):=by
    grind [assoc,AM,add_comm,add_neg,LH,add,mul,neg]
   have:=Cw g u0 (AM on) o2 hr hu h2 h1;rw[mul_add g on] at this;rw[show 2 * n+true.toNat=n+1+n by simp;omega];exact this
  ·have:=Ck g hc hc1 o2 h2;rw[mul_add g on] at this;rw[show 2 * n+true.toNat+1=n+1+(n+1) by simp;omega];exact this
theorem Bq{d i c u:(Fin pp)}{p:Pt (Fin pp)}(B:DH d i c u p):∀(l:List Bool) {s:(Fin pp)×(Fin pp)×(Fin pp)×(Fin pp)} {n:Nat},Qz s.1 s.2.1 (mul d p n)->Qz s.2.2.1 s.2.2.2 (mul d p (n+1))->
  Qz (mT c u l s).1 (mT c u l s).2.1 (mul d p (Hv l n))
 | [],_,_,h1,_=>h1
 | b :: l,s,n,h1,h2=>by
  obtain⟨k1,k2⟩:=cF B b h1 h2;exact Bq B l k1 k2
def res(c u:(Fin pp))(l:List Bool):(Fin pp):=(mT c u l (1,0,u,1)).1 * (mT c u l (1,0,u,1)).2.1⁻¹
def ux(p:Pt (Fin pp)):(Fin pp):=(1+p.y) * (1 - p.y)⁻¹
theorem Qaa:(0:(Fin pp))⁻¹=0:=inv_zero
theorem Qqd{a b:(Fin pp)}{q:Pt (Fin pp)}(h:Qz a b q):a * b⁻¹=ux q:=by
 obtain⟨l,hl,rfl,rfl⟩:=h;grind [Qaa,Qi2,nz,ux]
theorem inv_one:(1:(Fin pp))⁻¹=1:=by grind [Z9,zero_ne_one]
theorem Qha{d i c u:(Fin pp)}{p:Pt (Fin pp)}(B:DH d i c u p):Qz 1 0 (mul d p 0):=by
 have h2i:=Z9 B.Kt.two;exact⟨(2:(Fin pp))⁻¹,Ig B.Kt.two,by grind [mul,O],by grind [mul,O]⟩
theorem Qhx{d i c u:(Fin pp)}{p:Pt (Fin pp)}(B:DH d i c u p):Qz u 1 (mul d p (0+1)):=by
 have e:mul d p (0+1)=p:=by
  show add d O p=p;rw[add_comm,LH]
 rw[e];have hu:=B.hu;have n:1 - p.y≠0:=by
  intro h;rw[h] at hu;have:(2:(Fin pp))=0:=by grind
  exact B.Kt.two this
 have k:=Z9 n;exact⟨(1 - p.y)⁻¹,Ig n,by grind,by grind⟩
theorem EN{d i c u:(Fin pp)}{p:Pt (Fin pp)}(B:DH d i c u p)(l:List Bool):res c u l=ux (mul d p (Hv l 0)):=Qqd (Bq B l (Qha B) (Qhx B))
theorem DH.next{d i c u:(Fin pp)}{p:Pt (Fin pp)}(B:DH d i c u p)(n:Nat)(h1:1 - (mul d p n).y≠0)(h2:1+(mul d p n).y≠0):DH d i c (ux (mul d p n)) (mul d p n):=by
 have k:=Z9 h1;refine⟨B.Kt,B.hc,B.hc1,ET B.Kt B.on n,nz h2 (Ig h1),?_⟩;unfold ux;grind
theorem uX{d i c u:(Fin pp)}{p:Pt (Fin pp)}(B:DH d i c u p)(l m:List Bool)
  (h1:1 - (mul d p (Hv l 0)).y≠0) (h2:1+(mul d p (Hv l 0)).y≠0) (k1:1 - (mul d p (Hv m 0)).y≠0) (k2:1+(mul d p (Hv m 0)).y≠0) :
  res c (res c u l) m=res c (res c u m) l:=by
 rw[EN B l,EN B m,EN (B.next _ h1 h2) m,EN (B.next _ k1 k2) l,Eh B.Kt B.on,Eh B.Kt B.on,wX]
theorem yJ{d i:(Fin pp)}(g:Good d i){p:Pt (Fin pp)}(h:Kr d p)(hy:p.y * p.y=1):p.x=0:=by
 have ho:p.y * p.y - p.x * p.x=1+d * p.x * p.x * p.y * p.y:=h;have h1:(1:(Fin pp))+d≠0:=by
  intro e;have e2:d=-1:=by grind
  exact g.non i (by rw[g.root,e2])
 refine wY λn=>nz (nz n n) h1 ?_;grind
theorem Qix{d i:(Fin pp)}(g:Good d i){p:Pt (Fin pp)}(h:Kr d p)(hy:p.y=1):p=O:=Pt.ext (yJ g h (by rw[hy];grind)) hy
theorem one_sub{a:(Fin pp)}(h:1 - a=0):a=1:=by grind
theorem Qug{d i:(Fin pp)}(g:Good d i){q:Pt (Fin pp)}(h:Kr d q)(hy:q.y * q.y=1):add d q q=O:=by
 grind [yJ,Pt.ext,inv_one,add,O]
theorem sA(d:(Fin pp))(n:Nat):mul d O n=O:=by
 induction n with
 | zero=>rfl
 | succ n ih=>
  grind [LH,add,mul,O]
theorem order{d i:(Fin pp)}(g:Good d i){p:Pt (Fin pp)}(on:Kr d p)(ne:p≠O){e n:Nat}(pe:Pr e)(he:mul d p e=O)(h:mul d p n=O):e ∣ n:=by
 refine wY λhn=>ne ?_;obtain⟨x,hx⟩:=Bj (pe.cop hn).symm (by have:=pe.1;omega);obtain⟨y,hy⟩:∃y,n * x=e * y+1:=⟨n * x / e,by grind [Nat.div_add_mod]⟩;have e1:mul d p (n * x)=O:=by rw[<-Eh g on,h,sA]
 have e2:mul d p (e * y)=O:=by rw[<-Eh g on,he,sA]
 grind [add_comm,LH,add,mul,O]
theorem bB{d i:(Fin pp)}(g:Good d i){p:Pt (Fin pp)}(on:Kr d p)(ne:p≠O){e n:Nat}(pe:Pr e)(he:mul d p e=O)(h:¬e ∣ 2 * n):1 - (mul d p n).y≠0/\1+(mul d p n).y≠0:=by
 have key:(mul d p n).y * (mul d p n).y=1->False:=by
  intro hy;refine h (order g on ne pe he ?_);rw[show 2 * n=n+n by omega,<-mul_add g on];grind [Qug,ET]
 grind
theorem DH.ne{d i c u:(Fin pp)}{p:Pt (Fin pp)}(B:DH d i c u p):p≠O:=by
 intro h;have hu:=B.hu;rw[h] at hu;simp only[O] at hu;have:(2:(Fin pp))=0:=by grind
 exact B.Kt.two this
theorem dh{d i c u:(Fin pp)}{p:Pt (Fin pp)}(B:DH d i c u p){e:Nat}(pe:Pr e)(he:mul d p e=O)(l m:List Bool)(hl:¬e ∣ 2 * Hv l 0)(hm:¬e ∣ 2 * Hv m 0) :
  res c (res c u l) m=res c (res c u m) l/\res c (res c u l) m≠0:=by
 have ne:=B.ne;obtain⟨l1,l2⟩:=bB B.Kt B.on ne pe he hl;obtain⟨m1,m2⟩:=bB B.Kt B.on ne pe he hm;refine⟨uX B l m l1 l2 m1 m2,?_⟩;rw[EN B l,EN (B.next _ l1 l2) m,Eh B.Kt B.on];have h:¬e ∣ 2 * (Hv l 0 * Hv m 0):=by
  intro h;rcases Classical.em (e ∣ Hv m 0) with h2|h2
  ·grind
  ·rw[<-Nat.mul_assoc] at h;exact hl ((pe.cop h2).dvd_of_dvd_mul_right h)
 obtain⟨n1,n2⟩:=bB B.Kt B.on ne pe he h;exact nz n2 (Ig n1)
end
end Crv
namespace Crv
instance:NeZero AH:=⟨by decide +kernel⟩
abbrev Fp:=Fin AH
abbrev nP:Nat:=AH
theorem Qjw{a:Fp}(h:a≠0):a * VY a=1:=by
 apply Fin.ext;rw[Fin.val_mul];show a.val * (a.val ^ (nP - 2) % nP) % nP=1 % nP;rw[Nat.mul_mod_mod,wX,<-Nat.pow_succ,show (nP - 2).succ=nP - 1 by decide +kernel,Bd Qhf]
 ·exact(Nat.mod_eq_of_lt (by grind)).symm
 ·intro hd;have:=Nat.le_of_dvd (by grind) hd;grind
theorem qP{q:Nat}[NeZero q](h:2 < q):VY (0:Fin q)=0:=by
 apply Fin.ext;show (0:Fin q).val ^ (q - 2) % q=(0:Fin q).val;have e:(0:Fin q).val=0:=by simp
 grind [Nat.zero_pow,Nat.zero_mod]
theorem rM:VY (0:Fp)=0:=qP (by decide +kernel)
theorem Qjh:(0:Fp)≠1:=(by grind)
instance Qd8:Fd AH where
 CK _ h:=Qjw h
 inv_zero:=rM
 GC:=Qjh
def cD:Fp:=-121665 * (121666:Fp)⁻¹
def cI:Fp:=⟨19681161376707505956807079304988542015446066515923890162744021073123829784752,by decide +kernel⟩
def Xp:Fp:=121665
def bY:Fp:=4 * (5:Fp)⁻¹
def bX:Fp:=⟨15112221349535400772501151409588531511454012693041857206046113283949847762202,by decide +kernel⟩
theorem uP(a n:Nat)(h:n < 2 ^ 256):a ^ n % nP=pw nP 256 a n 1 % nP:=by rw[Lz _ _ _ _ h,Nat.one_mul]
def Gu(a:Nat):Nat:=pw nP 256 a (nP - 2) 1 % nP
theorem Gj(a:Fp):(a⁻¹).val=Gu a.val:=uP a.val _ (by decide +kernel)
theorem BZ:cD.val=37095705934669439343138083508754565189542113879843219016388785533085940283555:=by
 unfold cD;rw[Fin.val_mul,Gj,show (-121665:Fp).val=nP - 121665 by decide +kernel,show (121666:Fp).val=121666 by decide +kernel];decide +kernel
theorem Qu8:bY.val=46316835694926478169428394003475163141307993866256225615783033603165251855960:=by
 unfold bY;rw[Fin.val_mul,Gj,show (4:Fp).val=4 by decide +kernel,show (5:Fp).val=5 by decide +kernel];decide +kernel
theorem Qu1:cI.val=19681161376707505956807079304988542015446066515923890162744021073123829784752:=rfl
theorem Qu2(z:Fp):z * z≠cD:=by
 intro h;have hv:z.val * z.val % nP=cD.val:=by grind
 have e1:cD.val ^ ((nP - 1) / 2) % nP=nP - 1:=by
  rw[uP _ _ (by decide +kernel),BZ];decide +kernel
 by_cases h0:z.val=0
 ·simp_all [BZ]
 ·have e2:(z.val * z.val % nP) ^ ((nP - 1) / 2) % nP=1:=by
   rw[<-Nat.pow_mod,<-Nat.pow_two,<-Nat.pow_mul,show 2 * ((nP - 1) / 2)=nP - 1 by decide +kernel];refine Bd Qhf λhd=>?_;have h1:nP<=z.val:=Nat.le_of_dvd (by omega) hd;grind
  rw[hv,e1] at e2;revert e2;decide +kernel
theorem Qwr:Good cD cI where
 root:=by
  apply Fin.ext;rw[Fin.val_mul,Qu1];decide +kernel
 non:=Qu2
 two:=by decide +kernel
def bP:Pt Fp:=⟨bX,bY⟩
theorem Qu9:bX.val=15112221349535400772501151409588531511454012693041857206046113283949847762202:=rfl
theorem eB1:bY.val * bY.val % nP=(bX.val * bX.val % nP+(1+(((cD.val * bX.val % nP) * bX.val % nP) * bY.val % nP) * bY.val % nP) % nP) % nP:=by
 rw[BZ,Qu8,Qu9];decide +kernel
theorem eB(d x y:Fp)(h:y.val * y.val % nP=(x.val * x.val % nP+(1+(((d.val * x.val % nP) * x.val % nP) * y.val % nP) * y.val % nP) % nP) % nP):On d x y:=by
 have e:y * y=x * x+(1+d * x * x * y * y):=by
  apply Fin.ext;simp only[Fin.val_add,Fin.val_mul];exact h
 unfold On;grind
theorem Qhc:Kr cD bP:=eB cD bX bY eB1
theorem Qij:cD * (1+Xp)=-Xp:=by
 have k:∀x:Fp,x * 121666=(-121665) * ((121666:Fp)⁻¹ * 121666)->x * (1+121665)=-121665:=by intro x h;have:=inv_mul_cancel (a:=(121666:Fp)) (by decide +kernel);grind
 refine k _ ?_;unfold cD;grind
theorem y9:(9:Fp) * (1 - bY)=1+bY:=by
 unfold bY;have:=Z9 (a:=(5:Fp)) (by decide +kernel);grind
theorem bI:DH cD cI Xp 9 bP:=⟨Qwr,Qij,by decide +kernel,Qhc,by decide +kernel,y9⟩
def force{α:Type}(n:Nat)(k:Nat->α):α:=match n with
 | 0=>k 0
 | m+1=>k (m+1)
theorem force_eq{α:Type}(n:Nat)(k:Nat->α):force n k=k n:=by cases n<;>rfl
def iX(a b:Nat):Nat:=(nP - b+a) % nP
def RH{α:Type}(c a b:Nat)(k:Nat->Nat->α):α:=
 force ((a+b) % nP) λp=>force (iX a b) λm=>force (p * p % nP) λs=>force (m * m % nP) λt=>force (iX s t) λe=>
 force (s * t % nP) λx=>force (e * ((s+e * c % nP) % nP) % nP) λy=>k x y
def RU{α:Type}(u a b c d:Nat)(k:Nat->Nat->α):α:=
 force ((a+b) % nP) λp=>force (iX a b) λm=>force (iX c d * p % nP) λf=>force ((c+d) % nP * m % nP) λg=>
 force ((f+g) % nP) λh=>force (iX f g) λj=>force (h * h % nP) λx=>force (u * (j * j % nP) % nP) λy=>k x y
def Jj(c u:Nat):List Bool->Nat->Nat->Nat->Nat->Nat×Nat
 | [],x,y,_,_=>(x,y)
 | b :: l,x,y,z,w=>bif b then RH c z w λz2 w2=>RU u z w x y λx2 y2=>Jj c u l x2 y2 z2 w2
  else RH c x y λx2 y2=>RU u x y z w λz2 w2=>Jj c u l x2 y2 z2 w2
theorem jF(a b:Fp):(a - b).val=iX a.val b.val:=by
 unfold iX;grind
theorem aP(a b:Fp):(a+b).val=(a.val+b.val) % nP:=Fin.val_add a b
theorem SG(a b:Fp):(a * b).val=a.val * b.val % nP:=Fin.val_mul a b
theorem Tj{α:Type}(c a b:Fp)(k:Nat->Nat->α):RH c.val a.val b.val k=k (xW c a b).1.val (xW c a b).2.val:=by
 simp only[RH,xW,force_eq,aP,SG,jF]
theorem Tz{α:Type}(u a b c d:Fp)(k:Nat->Nat->α):RU u.val a.val b.val c.val d.val k=k (iN u a b c d).1.val (iN u a b c d).2.val:=by
 simp only[RU,iN,force_eq,aP,SG,jF]
theorem XX(c u:Fp):∀(l:List Bool) (s:Fp×Fp×Fp×Fp),Jj c.val u.val l s.1.val s.2.1.val s.2.2.1.val s.2.2.2.val=((mT c u l s).1.val,(mT c u l s).2.1.val)
 | [],s=>rfl
 | b :: l,s=>by
  unfold Jj;cases b with
  | true=>rw[cond_true,Tj,Tz];exact XX c u l (qA c u true s)
  | false=>rw[cond_false,Tj,Tz];exact XX c u l (qA c u false s)
def bits(n:Nat):Nat->List Bool
 | 0=>[]
 | k+1=>(n / 2 ^ k % 2==1) :: bits n k
theorem Dj(n:Nat):∀(k m:Nat),Hv (bits n k) m=m * 2 ^ k+n % 2 ^ k
 | 0,m=>by simp[bits,Hv,Nat.mod_one]
 | k+1,m=>by
  show Hv (bits n k) (2 * m+(n / 2 ^ k % 2==1).toNat)=_;rw[Dj n k];have h:n % 2 ^ (k+1)=n % 2 ^ k+2 ^ k * (n / 2 ^ k % 2):=by rw[Nat.pow_succ,Nat.mod_mul]
  have e:(n / 2 ^ k % 2==1).toNat=n / 2 ^ k % 2:=by rcases Nat.mod_two_eq_zero_or_one (n / 2 ^ k) with h|h<;>rw[h]<;>rfl
  grind
theorem Qy5:(Jj 121665 9 (bits Bo 253) 1 0 9 1).2=0:=by decide +kernel
theorem Qea:mul cD bP Bo=O:=by
 have B:=bI;have h:=Bq B (bits Bo 253) (s:=(1,0,9,1)) (n:=0) (Qha B) (Qhx B);have hn:Hv (bits Bo 253) 0=Bo:=by rw[Dj,Nat.zero_mul,we];decide +kernel
 rw[hn] at h;have e:=XX Xp 9 (bits Bo 253) (1,0,9,1);have hc:Xp.val=121665:=by decide +kernel
 have h9:(9:Fp).val=9:=by decide +kernel
 have h1:(1:Fp).val=1:=by decide +kernel
 have h0:(0:Fp).val=0:=by decide +kernel
 simp only[hc,h9,h1,h0] at e;have k:=Qy5;generalize Jj 121665 9 (bits Bo 253) 1 0 9 1=q at e k;subst e;generalize mT Xp 9 (bits Bo 253) (1,0,9,1)=t at h k;have e3:t.2.1=0:=Fin.ext (k.trans h0.symm);obtain⟨l,hl,h1,h2⟩:=h;rw[e3] at h2;refine Qix B.Kt (ET B.Kt B.on _) ?_;exact one_sub (wY λn=>nz hl n h2.symm)
theorem dh9(l m:List Bool)(hl:¬Bo ∣ 2 * Hv l 0)(hm:¬Bo ∣ 2 * Hv m 0):res Xp (res Xp 9 l) m=res Xp (res Xp 9 m) l/\res Xp (res Xp 9 l) m≠0:=
 dh bI Qqf Qea l m hl hm
end Crv
namespace Go.Proofs.YtjdieimefebnfaaGreatDoor
open Go Go.EV Crv
def v5(a b c d e:Int):Int:=a+2251799813685248 * b+5070602400912917605986812821504 * c+11417981541647679048466287755595961091061972992 * d+25711008708143844408671393477458601640355247900524685364822016 * e
theorem cQ(a0 a1 a2 a3 a4 b0 b1 b2 b3 b4:Int):v5 a0 a1 a2 a3 a4 * v5 b0 b1 b2 b3 b4 =
  v5 (a0 * b0+a1 * (19 * b4)+a2 * (19 * b3)+a3 * (19 * b2)+a4 * (19 * b1)) (a0 * b1+a1 * b0+a2 * (19 * b4)+a3 * (19 * b3)+a4 * (19 * b2))
   (a0 * b2+a1 * b1+a2 * b0+a3 * (19 * b4)+a4 * (19 * b3)) (a0 * b3+a1 * b2+a2 * b1+a3 * b0+a4 * (19 * b4)) (a0 * b4+a1 * b3+a2 * b2+a3 * b1+a4 * b0)
 +57896044618658097711785492504343953926634992332820282019728792003956564819949 * v5 (a1 * b4+a2 * b3+a3 * b2+a4 * b1) (a2 * b4+a3 * b3+a4 * b2) (a3 * b4+a4 * b3) (a4 * b4) 0:=by
 unfold v5;grind
theorem Qjv{a0 a1 a2 a3 a4 c0 c1 c2 c3 c4:Int}(h0:c0=a0 / 2251799813685248)(h1:c1=(a1+c0) / 2251799813685248)(h2:c2=(a2+c1) / 2251799813685248)(h3:c3=(a3+c2) / 2251799813685248)(h4:c4=(a4+c3) / 2251799813685248) :
  v5 (a0 % 2251799813685248+19 * c4) ((a1+c0) % 2251799813685248) ((a2+c1) % 2251799813685248) ((a3+c2) % 2251799813685248) ((a4+c3) % 2251799813685248)=v5 a0 a1 a2 a3 a4 - 57896044618658097711785492504343953926634992332820282019728792003956564819949 * c4:=by
 unfold v5;omega
def md(x:Int):Nat:=(x % 57896044618658097711785492504343953926634992332820282019728792003956564819949).toNat
theorem Jt(x:Int):((md x:Nat):Int)=x % 57896044618658097711785492504343953926634992332820282019728792003956564819949:=by unfold md;omega
theorem mF(x:Int):md x < nP:=by have:=Jt x;have:(nP:Int)=57896044618658097711785492504343953926634992332820282019728792003956564819949:=rfl;omega
theorem Rw{x:Int}{n:Nat}(h:x % 57896044618658097711785492504343953926634992332820282019728792003956564819949=(n:Int) % 57896044618658097711785492504343953926634992332820282019728792003956564819949):md x=n % nP:=by
 have:=Jt x;have e:((n % nP:Nat):Int)=(n:Int) % 57896044618658097711785492504343953926634992332820282019728792003956564819949:=by rw[Int.natCast_emod];rfl
 omega
theorem Ik(x c:Int):md (x - 57896044618658097711785492504343953926634992332820282019728792003956564819949 * c)=md x:=by unfold md;grind
theorem Wi(x c:Int):md (x+57896044618658097711785492504343953926634992332820282019728792003956564819949 * c)=md x:=by unfold md;grind
theorem mG(x y:Int):md (x+y)=(md x+md y) % nP:=Rw (by grind [Int.natCast_add,Jt,Int.add_emod])
theorem mL(x y:Int):md (x * y)=md x * md y % nP:=Rw (by grind [Int.natCast_mul,Jt,Int.mul_emod])
theorem mI(x y:Int):md (x - y)=iX (md x) (md y):=by
 have hy:=mF y;refine Rw ?_;rw[Int.natCast_add,Jt,show ((nP - md y:Nat):Int)=57896044618658097711785492504343953926634992332820282019728792003956564819949 - (md y:Int) by have:(nP:Int)=57896044618658097711785492504343953926634992332820282019728792003956564819949:=rfl;omega,Jt];omega
def fv(a:Q5):Int:=v5 a.a0 a.a1 a.a2 a.a3 a.a4
def fN(a:Q5):Nat:=md (fv a)
theorem Qej(a:Q5):fN a < nP:=mF _
abbrev Qr(x:Int):Prop:=0<=x/\x < 2251799813947392
abbrev wide(x:Int):Prop:=0<=x/\x < 18446744073709535232
def Hx(a:Q5):Prop:=Qr a.a0/\Qr a.a1/\Qr a.a2/\Qr a.a3/\Qr a.a4
def bQ(a0 a1 a2 a3 a4:Int):Q5:=
 ⟨a0 % 2251799813685248+19 * ((a4+(a3+(a2+(a1+a0 / 2251799813685248) / 2251799813685248) / 2251799813685248) / 2251799813685248) / 2251799813685248),(a1+a0 / 2251799813685248) % 2251799813685248,(a2+(a1+a0 / 2251799813685248) / 2251799813685248) % 2251799813685248,(a3+(a2+(a1+a0 / 2251799813685248) / 2251799813685248) / 2251799813685248) % 2251799813685248,(a4+(a3+(a2+(a1+a0 / 2251799813685248) / 2251799813685248) / 2251799813685248) / 2251799813685248) % 2251799813685248⟩
theorem AP(a0 a1 a2 a3 a4:Int)(h0:wide a0)(h1:wide a1)(h2:wide a2)(h3:wide a3)(h4:wide a4):Qy (Fo ⟨a0,a1,a2,a3,a4⟩) (λr=>r=bQ a0 a1 a2 a3 a4):=by
 unfold Fo;refine Qy.fn ?_;unfold Qku;refine Ok.tt (Ok.tt (Ok.tt (Ok.tt (Ok.tt (Ok.ff (Ok.d ?_))))));unfold bQ;simp only[Int.add_zero];rw[U2 h0.1 (by omega),DE h0.1];grind [U2,DE,Xz]
theorem xK(a0 a1 a2 a3 a4:Int):fN (bQ a0 a1 a2 a3 a4)=md (v5 a0 a1 a2 a3 a4):=by
 have e:=Qjv (a0:=a0) (a1:=a1) (a2:=a2) (a3:=a3) (a4:=a4) rfl rfl rfl rfl rfl;unfold fN fv bQ;simp only;rw[e,Ik]
theorem FO(a0 a1 a2 a3 a4:Int)(h0:wide a0)(h1:wide a1)(h2:wide a2)(h3:wide a3)(h4:wide a4):Qy (Fo ⟨a0,a1,a2,a3,a4⟩) (λr=>Hx r/\fN r=md (v5 a0 a1 a2 a3 a4)):=by
 refine(AP a0 a1 a2 a3 a4 h0 h1 h2 h3 h4).mono λr hr=>?_;grind [xK,bQ,Hx]
theorem FE(a b:Q5)(ha:Hx a)(hb:Hx b):Qy (TO a b) (λr=>Hx r/\fN r=(fN a+fN b) % nP):=by
 obtain⟨h0,h1,h2,h3,h4⟩:=ha;obtain⟨k0,k1,k2,k3,k4⟩:=hb;unfold TO;refine Qy.fn ?_;unfold Qkw;rw[U2 (n:=a.a0+b.a0) (by omega) (by omega),U2 (n:=a.a1+b.a1) (by omega) (by omega),U2 (n:=a.a2+b.a2) (by omega) (by omega),U2 (n:=a.a3+b.a3) (by omega) (by omega),U2 (n:=a.a4+b.a4) (by omega) (by omega)];refine Ok.tt (Ok.tt (Ok.tt (Ok.tt (Ok.tt (Ok.ff (Ok.c (FO _ _ _ _ _ ⟨by omega,by omega⟩ ⟨by omega,by omega⟩ ⟨by omega,by omega⟩ ⟨by omega,by omega⟩ ⟨by omega,by omega⟩) λr hr=>Ok.d ⟨hr.1,?_⟩))))));rw[hr.2];unfold fN;rw[<-mG];congr 1;unfold fv v5;omega
theorem XU(a b:Q5)(ha:Hx a)(hb:Hx b):Qy (TI a b) (λr=>Hx r/\fN r=iX (fN a) (fN b)):=by
 obtain⟨h0,h1,h2,h3,h4⟩:=ha;obtain⟨k0,k1,k2,k3,k4⟩:=hb;unfold TI;refine Qy.fn ?_;unfold Qkh;rw[U2 (n:=9007199254740988 - b.a0) (by omega) (by omega),U2 (n:=9007199254740988 - b.a1) (by omega) (by omega),U2 (n:=9007199254740988 - b.a2) (by omega) (by omega),U2 (n:=9007199254740988 - b.a3) (by omega) (by omega),U2 (n:=9007199254740988 - b.a4) (by omega) (by omega)];rw[U2 (n:=a.a0+(9007199254740988 - b.a0)) (by omega) (by omega),U2 (n:=a.a1+(9007199254740988 - b.a1)) (by omega) (by omega),U2 (n:=a.a2+(9007199254740988 - b.a2)) (by omega) (by omega),U2 (n:=a.a3+(9007199254740988 - b.a3)) (by omega) (by omega),U2 (n:=a.a4+(9007199254740988 - b.a4)) (by omega) (by omega)];rw[U2 (n:=a.a0+(9007199254740988 - b.a0) - 72) (by omega) (by omega)];refine Ok.tt (Ok.tt (Ok.tt (Ok.tt (Ok.tt (Ok.ff (Ok.c (FO _ _ _ _ _ ⟨by omega,by omega⟩ ⟨by omega,by omega⟩ ⟨by omega,by omega⟩ ⟨by omega,by omega⟩ ⟨by omega,by omega⟩) λr hr=>Ok.d ⟨hr.1,?_⟩))))));rw[hr.2];have e:v5 (a.a0+(9007199254740988 - b.a0) - 72) (a.a1+(9007199254740988 - b.a1)) (a.a2+(9007199254740988 - b.a2)) (a.a3+(9007199254740988 - b.a3)) (a.a4+(9007199254740988 - b.a4))=fv a - fv b+57896044618658097711785492504343953926634992332820282019728792003956564819949 * 4:=by unfold fv v5;omega
 rw[e,Wi,mI];rfl
theorem Cl(x y:Int)(hx:0<=x/\x < 18446744073709551616)(hy:0<=y/\y < 18446744073709551616):Qy (Wq x y) (λr=>r.1 * 18446744073709551616+r.2=x * y/\(0<=r.1/\r.1 < 18446744073709551616)/\0<=r.2/\r.2 < 18446744073709551616):=by
 unfold Wq;refine Qy.fn ?_;unfold g98;refine Ok.d ?_;have wr:∀n,0<=Z4 n/\Z4 n < 18446744073709551616:=(by grind [ME]);rw[Nt hx.1,Nt hy.1,aG hx.1 hx.2,aG hy.1 hy.2];have ex:x=x / 4294967296 * 4294967296+x % 4294967296:=by omega
 have ey:y=y / 4294967296 * 4294967296+y % 4294967296:=by omega
 have bx0:0<=x % 4294967296/\x % 4294967296<=4294967295:=by omega
 have bx1:0<=x / 4294967296/\x / 4294967296<=4294967295:=by omega
 have by0:0<=y % 4294967296/\y % 4294967296<=4294967295:=by omega
 have by1:0<=y / 4294967296/\y / 4294967296<=4294967295:=by omega
 generalize x / 4294967296=x1 at *;generalize x % 4294967296=x0 at *;generalize y / 4294967296=y1 at *;generalize y % 4294967296=y0 at *;have key:∀a b:Int,0<=a/\a<=4294967295->0<=b/\b<=4294967295->0<=a * b/\a * b<=18446744065119617025:=λa b ha hb=>⟨Int.mul_nonneg ha.1 hb.1,Int.mul_le_mul ha.2 hb.2 hb.1 (by decide)⟩
 have p00:=key x0 y0 bx0 by0;have p01:=key x0 y1 bx0 by1;have p10:=key x1 y0 bx1 by0;have p11:=key x1 y1 bx1 by1;have e:x * y=x1 * y1 * 18446744073709551616+(x1 * y0+x0 * y1) * 4294967296+x0 * y0:=by grind
 rw[e,Nt (wr _).1,Nt (wr _).1,aG (wr _).1 (wr _).2,Nt (wr _).1];refine⟨?_,wr _,wr _⟩;simp only[ME];grind
def Acc(n:Nat)(A l h:Int):Prop:=l+18446744073709551616 * h=A/\(0<=l/\l < 18446744073709551616)/\0<=h/\h<=(n:Int) * 70368744177664
theorem aB:Acc 0 0 0 0:=by unfold Acc;omega
theorem Cc{ρ:Type}{Q:ρ->Prop}{a:Nat}{o1 o2 o3:Operand}{d:Nat}{x y c:Int}{K:Int×Int->TT ρ}(hx:0<=x)(hy:0<=y)(hc:0<=c/\c<=1)(h:Ok (K ((x+y+c) % 18446744073709551616,(x+y+c) / 18446744073709551616)) Q):Ok (.Qq a (adc o1 o2 o3 d x y c) K) Q:=by
 refine Ok.o (r:=((x+y+c) % 18446744073709551616,(x+y+c) / 18446744073709551616)) ?_ h;show (bif _ then _ else _)=_;grind
theorem F2{ρ:Type}{Q:ρ->Prop}{n:Nat}{A x y lo hi:Int}{a b c d1 d2:Nat}{o1 o2 o3 o4 o5 o6:Operand}{K:Int×Int->Int×Int->Int×Int->TT ρ}(ha:Acc n A lo hi)(hn:n<=4)(hx:Qr x)(hy:0<=y/\y < 42784196465000448)
  (h:∀r l h',Acc (n+1) (A+x * y) l.1 h'.1->Ok (K r l h') Q) :
  Ok (.call a (Wq x y) [] [] λr=>.Qq b (adc o1 o2 o3 d1 lo r.2 0) λl=>.Qq c (adc o4 o5 o6 d2 hi r.1 l.2) λh'=>K r l h') Q:=by
 obtain⟨a1,a2,a3,a4⟩:=ha;refine Ok.c (Cl x y ⟨hx.1,by omega⟩ ⟨hy.1,by omega⟩) λr hr=>?_;obtain⟨r1,r2,r3⟩:=hr;have hb:x * y<=2251799813947392 * 42784196465000448:=Int.mul_le_mul (by omega) (by omega) hy.1 (by decide);have hr1:r.1<=5222680240000:=by omega
 refine Cc (by omega) (by omega) (by omega) (Cc (by omega) (by omega) (by omega) (h _ _ _ ?_));show Acc (n+1) (A+x * y) ((lo+r.2+0) % 18446744073709551616) ((hi+r.1+(lo+r.2+0) / 18446744073709551616) % 18446744073709551616);unfold Acc;omega
theorem kZ{ρ:Type}{Q:ρ->Prop}{A l h up:Int}{a d:Nat}{o1 o2 o3:Operand}{K:Int×Int->TT ρ}(ha:Acc 5 A l h)(hu:0<=up/\up < 18446744073709551616)
  (hk:∀r:Int×Int,Zl .u64 (E0 .u64 (Z4 (h+r.2)) 13) (Z5 .u64 r.1 51)=(A+up) / 2251799813685248->U1 .u64 r.1 2251799813685247=(A+up) % 2251799813685248->Ok (K r) Q) :
  Ok (.Qq a (adc o1 o2 o3 d l up 0) K) Q:=by
 obtain⟨a1,a2,a3,a4⟩:=ha;grind [Cc,U2,sL,Xz,Zl,E0,Z4,Z5,U1]
theorem Qez{A0 A1 A2 A3 A4 u0 u1 u2 u3 u4 X:Int}(h0:u0=A0 / 2251799813685248)(h1:u1=(A1+u0) / 2251799813685248)(h2:u2=(A2+u1) / 2251799813685248)(h3:u3=(A3+u2) / 2251799813685248)(h4:u4=(A4+u3) / 2251799813685248)(hX:X=A0 % 2251799813685248+19 * u4) :
  v5 (X % 2251799813685248) ((A1+u0) % 2251799813685248+X / 2251799813685248) ((A2+u1) % 2251799813685248) ((A3+u2) % 2251799813685248) ((A4+u3) % 2251799813685248)=v5 A0 A1 A2 A3 A4 - 57896044618658097711785492504343953926634992332820282019728792003956564819949 * u4:=by
 unfold v5;omega
theorem S6(a b:Q5)(ha:Hx a)(hb:Hx b):Qy (Mx a b) (λr=>Hx r/\fN r=fN a * fN b % nP):=by
 obtain⟨h0,h1,h2,h3,h4⟩:=ha;obtain⟨k0,k1,k2,k3,k4⟩:=hb;obtain⟨a0,a1,a2,a3,a4⟩:=a;obtain⟨b0,b1,b2,b3,b4⟩:=b;simp only at h0 h1 h2 h3 h4 k0 k1 k2 k3 k4;unfold Mx;refine Qy.fn ?_;unfold Qkt;simp only;rw[U2 (n:=19 * b1) (by omega) (by omega),U2 (n:=19 * b2) (by omega) (by omega),U2 (n:=19 * b3) (by omega) (by omega),U2 (n:=19 * b4) (by omega) (by omega)];refine Ok.tt (Ok.tt (Ok.ff ?_));refine F2 aB (by decide) h0 ⟨by omega,by omega⟩ λ_ _ _ A0=>?_;refine Ok.tt (Ok.ff ?_);refine F2 aB (by decide) h0 ⟨by omega,by omega⟩ λ_ _ _ A1=>?_;refine Ok.tt (Ok.ff ?_);refine F2 aB (by decide) h0 ⟨by omega,by omega⟩ λ_ _ _ A2=>?_;refine Ok.tt (Ok.ff ?_);refine F2 aB (by decide) h0 ⟨by omega,by omega⟩ λ_ _ _ A3=>?_;refine Ok.tt (Ok.ff ?_);refine F2 aB (by decide) h0 ⟨by omega,by omega⟩ λ_ _ _ A4=>?_;refine Ok.ff (Ok.tt (Ok.tt (Ok.ff ?_)));refine F2 A1 (by decide) h1 ⟨by omega,by omega⟩ λ_ _ _ A1=>?_;refine Ok.tt (Ok.ff ?_);refine F2 A2 (by decide) h1 ⟨by omega,by omega⟩ λ_ _ _ A2=>?_;refine Ok.tt (Ok.ff ?_);refine F2 A3 (by decide) h1 ⟨by omega,by omega⟩ λ_ _ _ A3=>?_;refine Ok.tt (Ok.ff ?_);refine F2 A4 (by decide) h1 ⟨by omega,by omega⟩ λ_ _ _ A4=>?_;refine Ok.tt (Ok.tt ?_);refine F2 A0 (by decide) h1 ⟨by omega,by omega⟩ λ_ _ _ A0=>?_;refine Ok.ff (Ok.tt (Ok.tt (Ok.ff ?_)));refine F2 A2 (by decide) h2 ⟨by omega,by omega⟩ λ_ _ _ A2=>?_;refine Ok.tt (Ok.ff ?_);refine F2 A3 (by decide) h2 ⟨by omega,by omega⟩ λ_ _ _ A3=>?_;refine Ok.tt (Ok.ff ?_);refine F2 A4 (by decide) h2 ⟨by omega,by omega⟩ λ_ _ _ A4=>?_;refine Ok.tt (Ok.tt ?_);refine F2 A0 (by decide) h2 ⟨by omega,by omega⟩ λ_ _ _ A0=>?_;refine Ok.tt (Ok.tt ?_);refine F2 A1 (by decide) h2 ⟨by omega,by omega⟩ λ_ _ _ A1=>?_;refine Ok.ff (Ok.tt (Ok.tt (Ok.ff ?_)));refine F2 A3 (by decide) h3 ⟨by omega,by omega⟩ λ_ _ _ A3=>?_;refine Ok.tt (Ok.ff ?_);refine F2 A4 (by decide) h3 ⟨by omega,by omega⟩ λ_ _ _ A4=>?_;refine Ok.tt (Ok.tt ?_);refine F2 A0 (by decide) h3 ⟨by omega,by omega⟩ λ_ _ _ A0=>?_;refine Ok.tt (Ok.tt ?_);refine F2 A1 (by decide) h3 ⟨by omega,by omega⟩ λ_ _ _ A1=>?_;refine Ok.tt (Ok.tt ?_);refine F2 A2 (by decide) h3 ⟨by omega,by omega⟩ λ_ _ _ A2=>?_;refine Ok.ff (Ok.tt (Ok.tt (Ok.ff ?_)));refine F2 A4 (by decide) h4 ⟨by omega,by omega⟩ λ_ _ _ A4=>?_;refine Ok.tt (Ok.tt ?_);refine F2 A0 (by decide) h4 ⟨by omega,by omega⟩ λ_ _ _ A0=>?_;refine Ok.tt (Ok.tt ?_);refine F2 A1 (by decide) h4 ⟨by omega,by omega⟩ λ_ _ _ A1=>?_;refine Ok.tt (Ok.tt ?_);refine F2 A2 (by decide) h4 ⟨by omega,by omega⟩ λ_ _ _ A2=>?_;refine Ok.tt (Ok.tt ?_);refine F2 A3 (by decide) h4 ⟨by omega,by omega⟩ λ_ _ _ A3=>?_;refine Ok.ff (Ok.ff (Ok.tt ?_));have bd:∀{A l h:Int},Acc 5 A l h->0<=A/\A < 9000000000000000000000000000000000:=(by grind [Acc]);have n0:=bd A0;have n1:=bd A1;have n2:=bd A2;have n3:=bd A3;have n4:=bd A4;have ev:v5 a0 a1 a2 a3 a4 * v5 b0 b1 b2 b3 b4=_:=cQ a0 a1 a2 a3 a4 b0 b1 b2 b3 b4;have r0:0+a0 * b0+a1 * (19 * b4)+a2 * (19 * b3)+a3 * (19 * b2)+a4 * (19 * b1)=a0 * b0+a1 * (19 * b4)+a2 * (19 * b3)+a3 * (19 * b2)+a4 * (19 * b1):=by omega
 have r1:0+a0 * b1+a1 * b0+a2 * (19 * b4)+a3 * (19 * b3)+a4 * (19 * b2)=a0 * b1+a1 * b0+a2 * (19 * b4)+a3 * (19 * b3)+a4 * (19 * b2):=by omega
 have r2:0+a0 * b2+a1 * b1+a2 * b0+a3 * (19 * b4)+a4 * (19 * b3)=a0 * b2+a1 * b1+a2 * b0+a3 * (19 * b4)+a4 * (19 * b3):=by omega
 have r3:0+a0 * b3+a1 * b2+a2 * b1+a3 * b0+a4 * (19 * b4)=a0 * b3+a1 * b2+a2 * b1+a3 * b0+a4 * (19 * b4):=by omega
 have r4:0+a0 * b4+a1 * b3+a2 * b2+a3 * b1+a4 * b0=a0 * b4+a1 * b3+a2 * b2+a3 * b1+a4 * b0:=by omega
 rw[<-r0,<-r1,<-r2,<-r3,<-r4] at ev;clear r0 r1 r2 r3 r4 bd;generalize 0+a0 * b0+a1 * (19 * b4)+a2 * (19 * b3)+a3 * (19 * b2)+a4 * (19 * b1)=S0 at *;generalize 0+a0 * b1+a1 * b0+a2 * (19 * b4)+a3 * (19 * b3)+a4 * (19 * b2)=S1 at *;generalize 0+a0 * b2+a1 * b1+a2 * b0+a3 * (19 * b4)+a4 * (19 * b3)=S2 at *;generalize 0+a0 * b3+a1 * b2+a2 * b1+a3 * b0+a4 * (19 * b4)=S3 at *;generalize 0+a0 * b4+a1 * b3+a2 * b2+a3 * b1+a4 * b0=S4 at *;clear h0 h1 h2 h3 h4 k0 k1 k2 k3 k4;refine kZ A0 ⟨by decide,by decide⟩ λt0 u0 w0=>Ok.tt ?_;rw[u0];rw[Int.add_zero] at *;have m0:0<=S0 / 2251799813685248/\S0 / 2251799813685248 < 4611686018427387904:=by omega
 refine kZ A1 ⟨by omega,by omega⟩ λt1 u1 w1=>Ok.tt ?_;rw[u1];generalize q0:S0 / 2251799813685248=c0 at *;have m1:0<=(S1+c0) / 2251799813685248/\(S1+c0) / 2251799813685248 < 4611686018427387904:=by omega
 refine kZ A2 ⟨by omega,by omega⟩ λt2 u2 w2=>Ok.tt ?_;rw[u2];generalize q1:(S1+c0) / 2251799813685248=c1 at *;have m2:0<=(S2+c1) / 2251799813685248/\(S2+c1) / 2251799813685248 < 4611686018427387904:=by omega
 refine kZ A3 ⟨by omega,by omega⟩ λt3 u3 w3=>Ok.tt ?_;rw[u3];generalize q2:(S2+c1) / 2251799813685248=c2 at *;have m3:0<=(S3+c2) / 2251799813685248/\(S3+c2) / 2251799813685248 < 4611686018427387904:=by omega
 refine kZ A4 ⟨by omega,by omega⟩ λt4 u4 w4=>Ok.ff ?_;rw[u4,w0];generalize q3:(S3+c2) / 2251799813685248=c3 at *;have m4:0<=(S4+c3) / 2251799813685248/\(S4+c3) / 2251799813685248 < 4611686018427387904:=by omega
 generalize q4:(S4+c3) / 2251799813685248=c4 at *;refine Ok.c (Cl c4 19 ⟨by omega,by omega⟩ ⟨by decide,by decide⟩) λp hp=>?_;obtain⟨p1,p2,p3⟩:=hp;refine Cc (by omega) (by omega) (by omega) ?_;show Ok (.call _ (Fo ⟨U1 .u64 ((S0 % 2251799813685248+p.2+0) % 18446744073709551616) 2251799813685247,Z4 (U1 .u64 t1.1 2251799813685247+Zl .u64 (E0 .u64 (Z4 (p.1+(S0 % 2251799813685248+p.2+0) / 18446744073709551616)) 13) (Z5 .u64 ((S0 % 2251799813685248+p.2+0) % 18446744073709551616) 51)),U1 .u64 t2.1 2251799813685247,U1 .u64 t3.1 2251799813685247,U1 .u64 t4.1 2251799813685247⟩) [] [] _) _;rw[w1,w2,w3,w4,U2 (n:=p.1+(S0 % 2251799813685248+p.2+0) / 18446744073709551616) (by omega) (by omega),sL (by omega) (by omega) (by omega) (by omega),Xz (by omega) (by omega)];have eX:(p.1+(S0 % 2251799813685248+p.2+0) / 18446744073709551616) * 18446744073709551616+(S0 % 2251799813685248+p.2+0) % 18446744073709551616=S0 % 2251799813685248+19 * c4:=by omega
 have eY:(S0 % 2251799813685248+p.2+0) % 18446744073709551616 % 2251799813685248=(S0 % 2251799813685248+19 * c4) % 2251799813685248:=by omega
 rw[eX,eY];generalize hX:S0 % 2251799813685248+19 * c4=X at *;rw[U2 (n:=(S1+c0) % 2251799813685248+X / 2251799813685248) (by omega) (by omega)];refine Ok.c (FO _ _ _ _ _ ⟨by omega,by omega⟩ ⟨by omega,by omega⟩ ⟨by omega,by omega⟩ ⟨by omega,by omega⟩ ⟨by omega,by omega⟩) λr hr=>Ok.d ⟨hr.1,?_⟩;rw[hr.2,Qez q0.symm q1.symm q2.symm q3.symm q4.symm hX.symm,Ik];show _=md (v5 a0 a1 a2 a3 a4) * md (v5 b0 b1 b2 b3 b4) % nP;rw[<-mL,ev,Wi]
end Go.Proofs.YtjdieimefebnfaaGreatDoor
