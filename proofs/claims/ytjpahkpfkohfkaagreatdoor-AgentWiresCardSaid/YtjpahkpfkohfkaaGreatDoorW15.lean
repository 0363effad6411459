/- A code of octets (digest.Mac) is made always, and has 32 octets. Plain lemmas on the guides. The reference's digest of a block. The digest of octets ..; no conditions. -/
import Derived.Test.YtjpahkpfkohfkaaGreatDoorW13
import Derived.Test.YtjpahkpfkohfkaaGreatDoorW14
import Derived.Test.YtjpahkpfkohfkaaGreatDoorW8
import Derived.Test.YtjpahkpfkohfkaaGreatDoorW7
import Derived.Test.YtjpahkpfkohfkaaGreatDoorW12
import Derived.Test.YtjpahkpfkohfkaaGreatDoorW9
import Derived.KernelRfl
set_option linter.unusedVariables false
set_option linter.unusedSimpArgs false
set_option maxRecDepth 100000
namespace Go.Proofs.YtjpahkpfkohfkaaGreatDoor
open Go Go.EV
theorem okROTL(x:W32)(c:Int)(k:Nat)(h0:0 < k)(hk:k < 32)(h1:Y1 .u64 (Z5 c) 31=((32 - k:Nat):Int)):SOk (s311 (iv x) c) (λr=>r=iv (x.rotateRight k)):=by
 have e2:Z5 ((32:Int) - ((32 - k:Nat):Int))=(k:Int):=by show IntKind.u64.wrap _=_;rw[IntKind.wrap_u64];omega
 refine Ok.k (by rw[h1];simp) (Ok.k (by grind) (Ok.d ?_))
 grind [rot_iv,bOr,N6,iv,Y1,Z5,Z3]
theorem V0{n:Int}(h0:0<=n)(h:n < 64):(bif decide (0<=n)&&decide (n < ((64:Nat):Int)) then some () else none)=some ():=by
 grind
theorem get64{l:List Int}(h:l.length=64){n:Int}(h0:0<=n)(h1:n < 64):∃x,l[0+n.toNat]?=some x:=⟨l[0+n.toNat]'(by omega),(by grind)⟩
theorem digestK_len:U2.length=64:=by kernel_rfl
def KB:List W32:=U2.map (BitVec.ofInt 32)
theorem KB_iv:U2.take 64=KB.map iv:=by kernel_rfl
def w8(v:V8):W8:=(iv v.a,iv v.b,iv v.c,iv v.d,iv v.e,iv v.f,iv v.g,iv v.h)
def l8(v:V8):List Int:=[iv v.a,iv v.b,iv v.c,iv v.d,iv v.e,iv v.f,iv v.g,iv v.h]
def bw(s:za)(k:Nat):W32:=BitVec.ofNat 32 (num (Z1 (s.extract (4 * k) (4 * k+4)))).toNat
theorem octs4{x:za}(hx:x.size=4):∃c0 c1 c2 c3:Nat,(c0 < 256/\c1 < 256/\c2 < 256/\c3 < 256)/\Z1 x=[(c0:Int),(c1:Int),(c2:Int),(c3:Int)]/\bAt x 0=(c0:Int)/\bAt x 1=(c1:Int)/\bAt x 2=(c2:Int)/\bAt x 3=(c3:Int):=by
 have hl:x.data.toList.length=4:=hx
 match h:x.data.toList,hl with
 | [a,b,c,d],_=>
  have hd:x.data=#[a,b,c,d]:=by grind
  refine⟨a.toNat,b.toNat,c.toNat,d.toNat,⟨a.toNat_lt,b.toNat_lt,c.toNat_lt,d.toNat_lt⟩,by grind [Z1],?_,?_,?_,?_⟩<;>(simp_all [bAt])
theorem word_or{x:za}(hx:x.size=4):bOr .u32 (bOr .u32 (bOr .u32 (N6 .u32 (A5 (bAt x 0)) 24) (N6 .u32 (A5 (bAt x 1)) 16)) (N6 .u32 (A5 (bAt x 2)) 8)) (A5 (bAt x 3))=iv (BitVec.ofNat 32 (num (Z1 x)).toNat):=by
 obtain⟨c0,c1,c2,c3,⟨h0,h1,h2,h3⟩,e,e0,e1,e2,e3⟩:=octs4 hx
 have w:∀c:Nat,c < 256->A5 (c:Int)=iv (BitVec.ofNat 32 c):=λc hc=>by
  rw[ivN];show IntKind.u32.wrap _=_;rw[wrapU]
 have en:(num (Z1 x)).toNat=((c0 * 256+c1) * 256+c2) * 256+c3:=by
  grind [num]
 rw[e0,e1,e2,e3,w c0 h0,w c1 h1,w c2 h2,w c3 h3,en,show (24:Int)=((24:Nat):Int) from rfl,show (16:Int)=((16:Nat):Int) from rfl,show (8:Int)=((8:Nat):Int) from rfl,shl_iv _ 24 (by decide),shl_iv _ 16 (by decide),shl_iv _ 8 (by decide),or_iv,or_iv,or_iv]
 congr 1
 refine BitVec.eq_of_toNat_eq ?_
 simp only[BitVec.toNat_or,BitVec.toNat_shiftLeft,BitVec.toNat_ofNat,Nat.shiftLeft_eq]
 rw[Nat.mod_eq_of_lt (show c0 < 2 ^ 32 by omega),Nat.mod_eq_of_lt (show c1 < 2 ^ 32 by omega),Nat.mod_eq_of_lt (show c2 < 2 ^ 32 by omega),Nat.mod_eq_of_lt (show c3 < 2 ^ 32 by omega),Nat.mod_eq_of_lt (show c0 * 2 ^ 24 < 2 ^ 32 by omega),Nat.mod_eq_of_lt (show c1 * 2 ^ 16 < 2 ^ 32 by omega),Nat.mod_eq_of_lt (show c2 * 2 ^ 8 < 2 ^ 32 by omega),Nat.mod_eq_of_lt (show ((c0 * 256+c1) * 256+c2) * 256+c3 < 2 ^ 32 by omega)]
 have k1:=Nat.two_pow_add_eq_or_of_lt (i:=24) (b:=c1 * 2 ^ 16) (by omega) c0
 have k2:=Nat.two_pow_add_eq_or_of_lt (i:=16) (b:=c2 * 2 ^ 8) (by omega) (c0 * 256+c1)
 have k3:=Nat.two_pow_add_eq_or_of_lt (i:=8) (b:=c3) (by omega) ((c0 * 256+c1) * 256+c2)
 rw[qc c0,<-k1,show 2 ^ 24 * c0+c1 * 2 ^ 16=2 ^ 16 * (c0 * 256+c1) by omega,<-k2,show 2 ^ 16 * (c0 * 256+c1)+c2 * 2 ^ 8=2 ^ 8 * ((c0 * 256+c1) * 256+c2) by omega,<-k3]
 omega
theorem okGMIX(v:V8)(tl:za)(ct:Int)(s rest:za)(hs:s.size=64):Ok (gMix (w8 v) tl ct s rest) (λr=>r=w8 (blkS KB (bw s) v)):=by
 unfold gMix
 refine Ok.o rfl (Ok.b (R:=λe=>e.length=64/\e.take 64=(M6 (bw s) 64).map iv) ?_ λe he=>?_)
 ·refine Ok.s 64 (by decide) (λk y=>y.1.length=64/\y.1.take k=(M6 (bw s) k).map iv/\y.2=(k:Int)) ⟨by simp,rfl,rfl⟩ (λk y hy hk=>?_) λy hy=>?_
  ·obtain⟨l,i⟩:=y
   obtain⟨hl,ht,rfl⟩:l.length=64/\l.take k=(M6 (bw s) k).map iv/\i=(k:Int):=hy
   have fin:∀w:W32,w=(if k < 16 then bw s k else nxt (M6 (bw s) k) k)->(l.set k (iv w)).length=64/\(l.set k (iv w)).take (k+1)=(M6 (bw s) (k+1)).map iv/\Q7 ((k:Int)+1)=((k+1:Nat):Int):=(by grind [List.length_set,take_set_iv,Y0,M6])
   refine Ok.t (by simp;omega) (Ok.e (λhc=>?_) λhc=>?_)
   ·have hc:(k:Int) < 16:=by simpa using hc
    have e1:Q7 ((4:Int) * (k:Int))=((4 * k:Nat):Int):=by grind [Z9]
    have e2:Q7 (((4 * k:Nat):Int)+4)=((4 * k+4:Nat):Int):=by grind [Z9]
    have ez:(s.extract (4 * k) (4 * k+4)).size=4:=by rw[ByteArray.size_extract];omega
    obtain⟨x,hx⟩:=get64 hl (n:=(k:Int)) (by omega) (by omega)
    simp only[e1,e2,zN,ez]
    refine Ok.k ?_ (Ok.k rfl (Ok.k rfl (Ok.k rfl (Ok.k rfl (Ok.o (r:=()) (V0 (by omega) (by omega)) (Ok.r rfl hx (Ok.re (Ok.d ?_))))))))
    ·simp;omega
    ·have:=fin (bw s k) (by rw[if_pos (by omega)])
     simp_all [word_or,zX,iv,bw]
   ·have hc:16<=(k:Int):=by simpa using hc
    have e15:Q7 ((k:Int) - 15)=((k - 15:Nat):Int):=by grind [Z9]
    have e2:Q7 ((k:Int) - 2)=((k - 2:Nat):Int):=by grind [Z9]
    have e16:Q7 ((k:Int) - 16)=((k - 16:Nat):Int):=by grind [Z9]
    have e7:Q7 ((k:Int) - 7)=((k - 7:Nat):Int):=by grind [Z9]
    have look:∀n:Nat,n < k->∃x,l[0+(n:Int).toNat]?=some x/\x=iv (wAt (M6 (bw s) k) n):=(by grind [get64,iv_at])
    obtain⟨x1,hx1,hv1⟩:=look (k - 15) (by omega)
    obtain⟨x2,hx2,hv2⟩:=look (k - 2) (by omega)
    obtain⟨x3,hx3,hv3⟩:=look (k - 16) (by omega)
    obtain⟨x4,hx4,hv4⟩:=look (k - 7) (by omega)
    obtain⟨x5,hx5⟩:=get64 hl (n:=(k:Int)) (by omega) (by omega)
    simp only[e15,e2,e16,e7]
    refine Ok.o (r:=()) (V0 (by omega) (by omega)) (Ok.r rfl hx1 ?_)
    refine Ok.o (r:=()) (V0 (by omega) (by omega)) (Ok.r rfl hx2 ?_)
    refine Ok.o (r:=()) (V0 (by omega) (by omega)) (Ok.r rfl hx3 ?_)
    refine Ok.o (r:=()) (V0 (by omega) (by omega)) (Ok.r rfl hx4 ?_)
    subst hv1;subst hv2;subst hv3;subst hv4
    refine Ok.c (okROTL _ _ 7 (by decide) (by decide) (by kernel_rfl)) λ_ q1=>Ok.c (okROTL _ _ 18 (by decide) (by decide) (by kernel_rfl)) λ_ q2=>Ok.c (okROTL _ _ 17 (by decide) (by decide) (by kernel_rfl)) λ_ q3=>Ok.c (okROTL _ _ 19 (by decide) (by decide) (by kernel_rfl)) λ_ q4=>?_
    subst q1;subst q2;subst q3;subst q4
    refine Ok.o (r:=()) (V0 (by omega) (by omega)) (Ok.r rfl hx5 (Ok.re (Ok.d ?_)))
    have:=fin (nxt (M6 (bw s) k) k) (by rw[if_neg (by omega)])
    show (l.set (0+(k:Int).toNat) _).length=64/\(l.set (0+(k:Int).toNat) _).take (k+1)=_/\_
    rw[show (3:Int)=((3:Nat):Int) from rfl,show (10:Int)=((10:Nat):Int) from rfl,shr_iv _ 3 (by decide),shr_iv _ 10 (by decide)]
    simp only[xor_iv,add_iv,zN,zX]
    exact this
  ·obtain⟨l,i⟩:=y
   obtain⟨hl,ht,rfl⟩:l.length=64/\l.take 64=(M6 (bw s) 64).map iv/\i=((64:Nat):Int):=hy
   exact Ok.f rfl (Ok.d ⟨hl,ht⟩)
 ·obtain⟨he,ht⟩:=he
  refine Ok.b (R:=λe2=>e2=w8 (rds KB (M6 (bw s) 64) v 64)) ?_ λe2 q=>Ok.d ?_
  ·refine Ok.s 64 (by decide) (λk y=>y=(iv (rds KB (M6 (bw s) 64) v k).a,iv (rds KB (M6 (bw s) 64) v k).b,iv (rds KB (M6 (bw s) 64) v k).c,iv (rds KB (M6 (bw s) 64) v k).d,iv (rds KB (M6 (bw s) 64) v k).e,iv (rds KB (M6 (bw s) 64) v k).f,iv (rds KB (M6 (bw s) 64) v k).g,iv (rds KB (M6 (bw s) 64) v k).h,(k:Int))) rfl (λk y hy hk=>?_) λy hy=>?_
   ·subst hy
    rw[rds]
    generalize rds KB (M6 (bw s) 64) v k=u
    obtain⟨x1,hx1⟩:=get64 digestK_len (n:=(k:Int)) (by omega) (by omega)
    obtain⟨x2,hx2⟩:=get64 he (n:=(k:Int)) (by omega) (by omega)
    obtain rfl:=iv_at KB_iv hk (by simpa using hx1)
    obtain rfl:=iv_at ht hk (by simpa using hx2)
    refine Ok.t (ww (show (k:Int) < 64 by omega)) ?_
    refine Ok.c (okROTL u.e _ 6 (by decide) (by decide) (by kernel_rfl)) λ_ q1=>Ok.c (okROTL u.e _ 11 (by decide) (by decide) (by kernel_rfl)) λ_ q2=>Ok.c (okROTL u.e _ 25 (by decide) (by decide) (by kernel_rfl)) λ_ q3=>?_
    refine Ok.o (r:=()) (V0 (n:=(k:Int)) (by omega) (by omega)) (Ok.r rfl hx1 ?_)
    refine Ok.o (r:=()) (V0 (n:=(k:Int)) (by omega) (by omega)) (Ok.r rfl hx2 ?_)
    refine Ok.c (okROTL u.a _ 2 (by decide) (by decide) (by kernel_rfl)) λ_ q4=>Ok.c (okROTL u.a _ 13 (by decide) (by decide) (by kernel_rfl)) λ_ q5=>Ok.c (okROTL u.a _ 22 (by decide) (by decide) (by kernel_rfl)) λ_ q6=>Ok.d ?_
    subst q1;subst q2;subst q3;subst q4;subst q5;subst q6
    show (_,_)=_
    simp only[not_iv,xor_iv,and_iv,add_iv]
    rw[Y0 hk (by decide)]
    rfl
   ·subst hy
    exact Ok.f rfl (Ok.d rfl)
  ·subst q
   show (_,_)=_
   simp only[w8,add_iv]
   rfl
theorem ext_ext(s:za)(a b c d:Nat):(s.extract a b).extract c d=s.extract (a+c) (min (a+d) b):=by
 ext1;simp
theorem ext_to{s:za}{a b c d:Nat}(h1:a=c)(h2:b=d):s.extract a b=s.extract c d:=by rw[h1,h2]
def mixN(s:za)(v:V8):Nat->V8
 | 0=>v
 | n+1=>blkS KB (bw (s.extract (64 * n) (64 * n+64))) (mixN s v n)
def X7(s:za)(v:V8):V8:=mixN s v (s.size / 64)
theorem mixN_congr{s t:za}{v:V8}:∀n,(∀i,i < n->s.extract (64 * i) (64 * i+64)=t.extract (64 * i) (64 * i+64))->mixN s v n=mixN t v n
 | 0,_=>rfl
 | n+1,h=>by rw[mixN,mixN,h n (by omega),mixN_congr n λi hi=>h i (by omega)]
theorem mixN_add(s:za)(v:V8)(n:Nat):∀p,64 * (n+p)<=s.size->mixN s v (n+p)=mixN (s.extract (64 * n) s.size) (mixN s v n) p
 | 0,_=>rfl
 | p+1,h=>by
  rw[<-Nat.add_assoc,mixN,mixN,mixN_add s v n p (by omega),ext_ext,show 64 * n+64 * p=64 * (n+p) by omega,show min (64 * n+(64 * p+64)) s.size=64 * (n+p)+64 by omega]
theorem mixS_app{m s t:za}{v:V8}(ht:t=m.extract (64 * (m.size / 64)) m.size):X7 (t++s) (X7 m v)=X7 (m++s) v:=by
 have hz:t.size=m.size - 64 * (m.size / 64):=by simp_all
 have hm:m=m.extract 0 (64 * (m.size / 64))++t:=by
  grind [ByteArray.extract_append_extract,Nat.min_eq_left,Nat.max_eq_right,ByteArray.extract_zero_size]
 have hn:(m++s).size / 64=m.size / 64+(t++s).size / 64:=by grind
 have e0:(m.extract 0 (64 * (m.size / 64))).size=64 * (m.size / 64):=by grind
 have e1:(m++s).extract (64 * (m.size / 64)) (m++s).size=t++s:=by
  grind [ByteArray.append_assoc,ByteArray.extract_append_eq_right,ByteArray.size_append]
 unfold X7
 rw[hn,mixN_add _ _ _ _ (by rw[<-hn];omega),e1]
 congr 1
 refine mixN_congr _ λi hi=>?_
 have:(m++s).extract 0 m.size=m:=ByteArray.extract_append_eq_left rfl
 grind [ext_ext]
theorem mxStep_end{tl:za}{ct:Int}{x:W8×za}(h:x.2.size < 64):S9 tl ct x=some (.inr x.1):=by
 grind [decide_eq_false,S9]
theorem mxStep_go{tl:za}{ct:Int}{x:W8×za}{r:W8}(h:64<=x.2.size)(hr:(gMix x.1 tl ct (x.2.extract 0 64) x.2).run=some r):S9 tl ct x=some (.inl (r,x.2.extract 64 x.2.size)):=by
 grind [decide_eq_true,S9]
theorem mixM_eq(v:V8)(tl:za)(ct:Int)(s:za)(hs:s.size<=1000000):mixM (w8 v) tl ct s=some (w8 (X7 s v)):=by
 have step:∀x:W8×za,(∃k,64 * k<=s.size/\x.1=w8 (mixN s v k)/\x.2=s.extract (64 * k) s.size)->∃r,S9 tl ct x=some r/\(match r with|.inl y=>(∃k,64 * k<=s.size/\y.1=w8 (mixN s v k)/\y.2=s.extract (64 * k) s.size)/\y.2.size < x.2.size|.inr e=>e=w8 (X7 s v)):=by
  rintro x ⟨k,hk,hx1,hx2⟩
  have hz:x.2.size=s.size - 64 * k:=by simp_all
  rcases wo x.2.size 64 with hlt|hge
  ·refine⟨.inr x.1,mxStep_end hlt,?_⟩
   grind [X7]
  ·obtain⟨r,h1,h2⟩:=okGMIX (mixN s v k) tl ct (x.2.extract 0 64) x.2 (by rw[ByteArray.size_extract];omega)
   rw[<-hx1] at h1
   have e:x.2.extract 0 64=s.extract (64 * k) (64 * k+64):=by grind [ext_ext]
   have e2:x.2.extract 64 x.2.size=s.extract (64 * (k+1)) s.size:=by rw[hz,hx2,ext_ext];congr 1;omega
   refine⟨.inl (r,x.2.extract 64 x.2.size),mxStep_go hge h1,⟨k+1,by omega,?_,e2⟩,?_⟩
   ·grind [mixN]
   grind [ByteArray.size_extract]
 obtain⟨e,h,h2⟩:=iter_inv (f:=S9 tl ct) (λx=>∃k,64 * k<=s.size/\x.1=w8 (mixN s v k)/\x.2=s.extract (64 * k) s.size) (λx=>x.2.size) (λe=>e=w8 (X7 s v)) (λx hx=>by obtain⟨r,h1,h2⟩:=step x hx;grind) FUEL (w8 v,s) ⟨0,Nat.zero_le _,rfl,by simp_all⟩ (A9 (by grind))
 grind [mixM]
attribute [irreducible] X7
attribute [local irreducible] mixM
theorem okDMIX(s:za)(v:V8)(tl:za)(ct:Int)(hs:s.size<=1000000):SOk (s290_1 s ⟨⟨⟨iv v.a,iv v.b,iv v.c,iv v.d,iv v.e,iv v.f,iv v.g,iv v.h⟩,tl,ct⟩⟩) (λr=>r=w8 (X7 s v)):=by
 unfold s290_1
 show Ok (g290_1 s _) _
 refine Ok.o rfl (Ok.c (R:=λ_=>True) ⟨(),rfl,trivial⟩ λ_ _=>Ok.g (Ok.subR (r:=w8 (X7 s v)) ?_ (Ok.d ?_)))
 ·exact mixM_eq v tl ct s hs
 grind
def hashV(m:za)(v0:V8):SHash1:=⟨⟨⟨iv (X7 m v0).a,iv (X7 m v0).b,iv (X7 m v0).c,iv (X7 m v0).d,iv (X7 m v0).e,iv (X7 m v0).f,iv (X7 m v0).g,iv (X7 m v0).h⟩,m.extract (64 * (m.size / 64)) m.size,(m.size:Nat)⟩⟩
theorem okDADD(s m:za)(v0:V8)(hs:s.size+m.size<=500000):SOk (s278 s (hashV m v0)) (λr=>r=(iv (X7 (m++s) v0).a,iv (X7 (m++s) v0).b,iv (X7 (m++s) v0).c,iv (X7 (m++s) v0).d,iv (X7 (m++s) v0).e,iv (X7 (m++s) v0).f,iv (X7 (m++s) v0).g,iv (X7 (m++s) v0).h,(m++s).extract (64 * ((m++s).size / 64)) (m++s).size,(((m++s).size:Nat):Int))):=by
 unfold s278
 show Ok (g278 s (hashV m v0)) _
 have ht:(m.extract (64 * (m.size / 64)) m.size).size=m.size - 64 * (m.size / 64):=by simp_all
 have hz:(m.extract (64 * (m.size / 64)) m.size++s).size=m.size - 64 * (m.size / 64)+s.size:=by grind
 have hc:=mixS_app (m:=m) (s:=s) (v:=v0) rfl
 have hm:m.extract 0 (64 * (m.size / 64))++m.extract (64 * (m.size / 64)) m.size=m:=by
  grind [ByteArray.extract_append_extract,Nat.min_eq_left,Nat.max_eq_right,ByteArray.extract_zero_size]
 have hx:(m.extract (64 * (m.size / 64)) m.size++s).extract (64 * ((m.extract (64 * (m.size / 64)) m.size++s).size / 64)) (m.extract (64 * (m.size / 64)) m.size++s).size=(m++s).extract (64 * ((m++s).size / 64)) (m++s).size:=by
  have e0:(m.extract 0 (64 * (m.size / 64))).size=64 * (m.size / 64):=by grind
  have hw:(m++s).extract (64 * (m.size / 64)) (m++s).size=m.extract (64 * (m.size / 64)) m.size++s:=by
   grind [ByteArray.append_assoc,ByteArray.extract_append_eq_right,ByteArray.size_append]
  grind [ext_ext,ext_to,ByteArray.size_append]
 generalize hT:m.extract (64 * (m.size / 64)) m.size=t at ht hz hc hx
 have e1:Int.tdiv ((t++s).size:Int) 64=(((t++s).size / 64:Nat):Int):=by grind
 have e2:Q7 ((Q7 (Int.tdiv ((t++s).size:Int) 64)) * 64)=((64 * ((t++s).size / 64):Nat):Int):=by
  grind [Z9]
 unfold hashV g278
 simp only[hT]
 refine Ok.o rfl (Ok.k (by grind) (Ok.o rfl (Ok.c (okDMIX (t++s) (X7 m v0) t _ (by omega)) λr hr=>Ok.k ?_ ?_)))
 ·rw[e2];simp;omega
 ·rw[hc] at hr
  subst hr
  refine Ok.c (R:=λr=>r=(t++s).extract (64 * ((t++s).size / 64)) (t++s).size) ?_ λr hr=>Ok.d ?_
  ·rw[e2,zN]
   exact Ok.c (R:=λ_=>True) (show Ok (g312 _) _ from Ok.k (by rw[ByteArray.size_extract];grind) (Ok.d trivial)) λ_ _=>Ok.d rfl
  ·subst hr
   rw[hx]
   show (_,_,_,_,_,_,_,_,_,Q7 (((m.size:Nat):Int)+(s.size:Int)))=_
   rw[Z9 (by omega) (by omega),ByteArray.size_append]
   generalize X7 (m++s) v0=u
   rfl
theorem bAt_octet{s:za}{k:Nat}(h:k < s.size):(Z1 s)[k]?=some (bAt s (k:Int)):=by
 simp_all [zV,zN,Array.getElem?_toList,wl,wH,Z1,bAt]
theorem okR1NUM(s:za)(h:s.size<=7):SOk (s70 s) (λr=>r=num (Z1 s)):=by
 have hl:=J0 s
 have hb:∀c,c∈Z1 s->0<=c/\c < 256:=λc hc=>G0 hc
 unfold s70
 refine SOk.fn ?_
 unfold g70
 refine Ok.b (R:=λe=>e=num (Z1 s)) ?_ λe he=>Ok.d he
 refine Ok.s s.size (by omega) (λk y=>k<=s.size/\y=(num ((Z1 s).take k),(k:Int))) ⟨Nat.zero_le _,rfl⟩ (λk y hy hk=>?_) λy hy=>?_
 ·obtain⟨_,rfl⟩:=hy
  refine Ok.t (by simp;omega) (Ok.k (by simp;omega) (Ok.d ?_))
  obtain⟨x,hx,hx'⟩:=M5 (l:=Z1 s) (k:=k) (by omega)
  have hbt:bAt s (k:Int)=x:=by
   grind [bAt_octet,Option.some.inj]
  have h1:=num_lt6 (n:=k) hb (by omega)
  have h2:=hb x (zO hx')
  grind [num_take,Y0,Z9,Q7,num,Z1,bAt]
 ·obtain⟨_,rfl⟩:=hy
  grind [Ok.f,Ok.d,List.take_length,num,Z1]
theorem sum5_iv(a b c d e:W32):(iv a+iv b+iv c+iv d+iv e) % 4294967296=iv (a+b+c+d+e):=by
 grind [iv]
theorem okRS(a b c d e:W32):SOk (s297 (iv a) (iv b) (iv c) (iv d) (iv e)) (λr=>r=iv (a+b+c+d+e)):=
 (okRSUM5 _ _ _ _ _ (T3 a) (T3 b) (T3 c) (T3 d) (T3 e)).mono λr h=>by rw[h,sum5_iv]
theorem okRS2(a b:W32):SOk (s297 (iv a) (iv b) 0 0 0) (λr=>r=iv (a+b)):=
 (show SOk (s297 (iv a) (iv b) 0 0 0) (λr=>r=iv (a+b+0+0+0)) from okRS a b 0 0 0).mono λr h=>by rw[h];simp
theorem okRS4(a b c d:W32):SOk (s297 (iv a) (iv b) (iv c) (iv d) 0) (λr=>r=iv (a+b+c+d)):=
 (show SOk (s297 (iv a) (iv b) (iv c) (iv d) 0) (λr=>r=iv (a+b+c+d+0)) from okRS a b c d 0).mono λr h=>by rw[h];simp
theorem ix{n:Int}{k m:Nat}(h:n=(k:Int))(hk:k < m):(decide (0<=n)&&decide (n < (m:Int)))=true:=by grind
theorem sched_succ(b:Nat->W32)(k:Nat):M6 b (k+1)=M6 b k++[if k < 16 then b k else nxt (M6 b k) k]:=rfl
theorem sched_zero(b:Nat->W32):M6 b 0=[]:=rfl
attribute [local irreducible] M6
theorem okRMIXED(t:E6)(ht:t.fK=U2)(v:V8)(s:za)(hs:s.size=64):SOk (s285 t (l8 v) s) (λr=>r=l8 (blkS KB (bw s) v)):=by
 unfold s285
 refine SOk.fn ?_
 unfold g285
 refine Ok.g (Ok.b (R:=λe=>e=(M6 (bw s) 64).map iv) ?_ λe he=>?_)
 ·refine Ok.s 64 (by decide) (λk y=>y=((M6 (bw s) k).map iv,(k:Int))) (by rw[sched_zero];rfl) (λk y hy hk=>?_) λy hy=>?_
  ·subst hy
   have hlen:((M6 (bw s) k).map iv).length=k:=by rw[wj,sched_len]
   have fin:∀w:W32,w=(if k < 16 then bw s k else nxt (M6 (bw s) k) k)->(((M6 (bw s) k).map iv)++[iv w],Q7 ((k:Int)+1))=((M6 (bw s) (k+1)).map iv,((k+1:Nat):Int)):=λw hw=>by
    rw[Y0 hk (by decide),sched_succ,<-hw,wA];rfl
   have sz:∀x:Int,(((M6 (bw s) k).map iv).length+[x].length) * 8<=140737488355328:=(by grind)
   refine Ok.t (by simp;omega) (Ok.e (λhc=>?_) λhc=>?_)
   ·have hc:(k:Int) < 16:=by simpa using hc
    have e1:Q7 ((4:Int) * (k:Int))=((4 * k:Nat):Int):=by grind [Z9]
    have e2:Q7 (((4 * k:Nat):Int)+4)=((4 * k+4:Nat):Int):=by grind [Z9]
    have ez:(s.extract (4 * k) (4 * k+4)).size=4:=by rw[ByteArray.size_extract];omega
    simp only[e1,e2,zN]
    refine Ok.k (by simp;omega) (Ok.c (okR1NUM _ (by omega)) λr hr=>?_)
    have hr':r=iv (bw s k):=by
     rw[hr,bw,ivN]
     have:=num_lt (l:=Z1 (s.extract (4 * k) (4 * k+4))) λc hc=>G0 hc
     rw[J0,ez] at this
     omega
    subst hr'
    exact Ok.app (sz _) (Ok.g (Ok.g (Ok.d (by grind))))
   ·have hc:16<=(k:Int):=by simpa using hc
    have e15:Q7 ((k:Int) - 15)=((k - 15:Nat):Int):=by grind [Z9]
    have e2:Q7 ((k:Int) - 2)=((k - 2:Nat):Int):=by grind [Z9]
    have e16:Q7 ((k:Int) - 16)=((k - 16:Nat):Int):=by grind [Z9]
    have e7:Q7 ((k:Int) - 7)=((k - 7:Nat):Int):=by grind [Z9]
    have look:∀n:Nat,n < k->((M6 (bw s) k).map iv)[0+(n:Int).toNat]?=some (iv (wAt (M6 (bw s) k) n)):=λn hn=>by
     simp_all [zN,zX,zV,zR,sched_len,wAt]
    simp only[e15,e2,e16,e7]
    refine Ok.k (ix rfl (by omega)) (Ok.r rfl (look (k - 15) (by omega)) (Ok.c (okRWORD _) λr1 q1=>?_))
    subst q1
    refine Ok.k (ix rfl (by omega)) (Ok.r rfl (look (k - 2) (by omega)) (Ok.c (okRWORD _) λr2 q2=>?_))
    subst q2
    refine Ok.o rfl (Ok.o rfl (Ok.o rfl (Ok.o rfl (Ok.k (ix rfl (by omega)) (Ok.r rfl (look (k - 16) (by omega)) (Ok.k (ix rfl (by omega)) (Ok.r rfl (look (k - 7) (by omega)) ?_)))))))
    refine Ok.o rfl (Ok.c (L0 _ 7 (by decide)) λr3 q3=>?_);subst q3
    refine Ok.o rfl (Ok.c (L0 _ 18 (by decide)) λr4 q4=>?_);subst q4
    refine Ok.o rfl (Ok.c (okRMOVED _ 3 (by decide)) λr5 q5=>?_);subst q5
    refine Ok.c (okRTHREE _ _ _) λr6 q6=>?_;subst q6
    refine Ok.c (okRVALUE _) λr7 q7=>?_;subst q7
    refine Ok.o rfl (Ok.c (L0 _ 17 (by decide)) λr3 q3=>?_);subst q3
    refine Ok.o rfl (Ok.c (L0 _ 19 (by decide)) λr4 q4=>?_);subst q4
    refine Ok.o rfl (Ok.c (okRMOVED _ 10 (by decide)) λr5 q5=>?_);subst q5
    refine Ok.c (okRTHREE _ _ _) λr6 q6=>?_;subst q6
    refine Ok.c (okRVALUE _) λr8 q8=>?_;subst q8
    refine Ok.c (okRS4 _ _ _ _) λr9 q9=>?_;subst q9
    exact Ok.app (sz _) (Ok.g (Ok.g (Ok.d (fin _ (by rw[if_neg (by omega)];rfl)))))
  ·subst hy
   exact Ok.f rfl (Ok.d rfl)
 ·subst he
  unfold blkS
  have hlen:((M6 (bw s) 64).map iv).length=64:=by rw[wj,sched_len]
  generalize M6 (bw s) 64=W at hlen ⊢
  refine Ok.app (show (0+8) * 8<=140737488355328 by decide) (Ok.g (Ok.b (R:=λe=>e=l8 (rds KB W v 64)) ?_ λe he=>?_))
  ·refine Ok.s 64 (by decide) (λk y=>y=(l8 (rds KB W v k),(k:Int))) rfl (λk y hy hk=>?_) λy hy=>?_
   ·subst hy
    rw[rds]
    generalize rds KB W v k=u
    have hW:W.length=64:=by grind
    have lookW:(W.map iv)[0+(k:Int).toNat]?=some (iv (wAt W k)):=by
     simp_all [zN,zX,zV,zR,wAt]
    have lookK:t.fK[(k:Int).toNat]?=some (iv (wAt KB k)):=by
     grind [Int.toNat_natCast,digestK_len,List.getElem?_eq_getElem,iv_at,KB_iv,U2]
    refine Ok.t (by simp;omega) ?_
    refine Ok.k rfl (Ok.r rfl (x:=iv u.a) rfl (Ok.c (okRWORD _) λr q=>?_));subst q
    refine Ok.k rfl (Ok.r rfl (x:=iv u.b) rfl (Ok.c (okRWORD _) λr q=>?_));subst q
    refine Ok.k rfl (Ok.r rfl (x:=iv u.c) rfl (Ok.c (okRWORD _) λr q=>?_));subst q
    refine Ok.o rfl (Ok.o rfl (Ok.o rfl (Ok.o rfl (Ok.o rfl (Ok.o rfl ?_)))))
    refine Ok.k rfl (Ok.r rfl (x:=iv u.e) rfl (Ok.c (okRWORD _) λr q=>?_));subst q
    refine Ok.k rfl (Ok.r rfl (x:=iv u.f) rfl (Ok.c (okRWORD _) λr q=>?_));subst q
    refine Ok.k rfl (Ok.r rfl (x:=iv u.g) rfl (Ok.c (okRWORD _) λr q=>?_));subst q
    refine Ok.o rfl (Ok.o rfl (Ok.o rfl (Ok.o rfl (Ok.o rfl (Ok.o rfl ?_)))))
    refine Ok.k rfl (Ok.r rfl (x:=iv u.h) rfl ?_)
    refine Ok.o rfl (Ok.c (L0 u.e 6 (by decide)) λr q=>?_);subst q
    refine Ok.o rfl (Ok.c (L0 u.e 11 (by decide)) λr q=>?_);subst q
    refine Ok.o rfl (Ok.c (L0 u.e 25 (by decide)) λr q=>?_);subst q
    refine Ok.c (okRTHREE _ _ _) λr q=>?_;subst q
    refine Ok.c (okRVALUE _) λr q=>?_;subst q
    refine Ok.o rfl (Ok.o rfl (Ok.c (okRAND u.e u.f) λr q=>?_));subst q
    refine Ok.o rfl (Ok.c (okRNOT u.e) λr q=>?_);subst q
    refine Ok.o rfl (Ok.c (okRAND _ u.g) λr q=>?_);subst q
    refine Ok.c (okRXOR _ _) λr q=>?_;subst q
    refine Ok.c (okRVALUE _) λr q=>?_;subst q
    refine Ok.r (by simp) lookK (Ok.k (by grind) (Ok.r rfl lookW ?_))
    refine Ok.c (okRS _ _ _ _ _) λr q=>?_;subst q
    refine Ok.o rfl (Ok.c (L0 u.a 2 (by decide)) λr q=>?_);subst q
    refine Ok.o rfl (Ok.c (L0 u.a 13 (by decide)) λr q=>?_);subst q
    refine Ok.o rfl (Ok.c (L0 u.a 22 (by decide)) λr q=>?_);subst q
    refine Ok.c (okRTHREE _ _ _) λr q=>?_;subst q
    refine Ok.c (okRVALUE _) λr q=>?_;subst q
    refine Ok.o rfl (Ok.o rfl (Ok.c (okRAND u.a u.b) λr q=>?_));subst q
    refine Ok.o rfl (Ok.o rfl (Ok.c (okRAND u.a u.c) λr q=>?_));subst q
    refine Ok.o rfl (Ok.o rfl (Ok.c (okRAND u.b u.c) λr q=>?_));subst q
    refine Ok.c (okRTHREE _ _ _) λr q=>?_;subst q
    refine Ok.c (okRVALUE _) λr q=>?_;subst q
    refine Ok.c (okRS2 _ _) λr q=>?_;subst q
    refine Ok.c (okRS2 _ _) λr q=>?_;subst q
    refine Ok.k rfl (Ok.r rfl (x:=iv u.a) rfl (Ok.k rfl (Ok.r rfl (x:=iv u.b) rfl (Ok.k rfl (Ok.r rfl (x:=iv u.c) rfl (Ok.k rfl (Ok.r rfl (x:=iv u.d) rfl (Ok.c (okRS2 _ _) λr q=>?_))))))))
    subst q
    refine Ok.k rfl (Ok.r rfl (x:=iv u.e) rfl (Ok.k rfl (Ok.r rfl (x:=iv u.f) rfl (Ok.k rfl (Ok.r rfl (x:=iv u.g) rfl (Ok.g (Ok.g (Ok.d ?_))))))))
    show (_,_)=_
    rw[Y0 hk (by decide)]
    rfl
   ·subst hy
    exact Ok.f rfl (Ok.d rfl)
  ·subst he
   generalize rds KB W v 64=u
   refine Ok.g (Ok.b (R:=λe=>e=l8 (v.add u)) ?_ λe he=>Ok.g (Ok.d he))
   refine Ok.s 8 (by decide) (λk y=>y=((l8 (v.add u)).take k,(k:Int))) rfl (λk y hy hk=>?_) λy hy=>?_
   ·subst hy
    have:k=0\/k=1\/k=2\/k=3\/k=4\/k=5\/k=6\/k=7:=by omega
    rcases this with rfl|rfl|rfl|rfl|rfl|rfl|rfl|rfl
    ·exact Ok.t rfl (Ok.r rfl (x:=iv v.a) rfl (Ok.k rfl (Ok.r rfl (x:=iv u.a) rfl (Ok.c (okRS2 _ _) λr q=>Ok.app (by grind) (Ok.g (Ok.g (Ok.d (by subst q;rfl))))))))
    ·exact Ok.t rfl (Ok.r rfl (x:=iv v.b) rfl (Ok.k rfl (Ok.r rfl (x:=iv u.b) rfl (Ok.c (okRS2 _ _) λr q=>Ok.app (by grind) (Ok.g (Ok.g (Ok.d (by subst q;rfl))))))))
    ·exact Ok.t rfl (Ok.r rfl (x:=iv v.c) rfl (Ok.k rfl (Ok.r rfl (x:=iv u.c) rfl (Ok.c (okRS2 _ _) λr q=>Ok.app (by grind) (Ok.g (Ok.g (Ok.d (by subst q;rfl))))))))
    ·exact Ok.t rfl (Ok.r rfl (x:=iv v.d) rfl (Ok.k rfl (Ok.r rfl (x:=iv u.d) rfl (Ok.c (okRS2 _ _) λr q=>Ok.app (by grind) (Ok.g (Ok.g (Ok.d (by subst q;rfl))))))))
    ·exact Ok.t rfl (Ok.r rfl (x:=iv v.e) rfl (Ok.k rfl (Ok.r rfl (x:=iv u.e) rfl (Ok.c (okRS2 _ _) λr q=>Ok.app (by grind) (Ok.g (Ok.g (Ok.d (by subst q;rfl))))))))
    ·exact Ok.t rfl (Ok.r rfl (x:=iv v.f) rfl (Ok.k rfl (Ok.r rfl (x:=iv u.f) rfl (Ok.c (okRS2 _ _) λr q=>Ok.app (by grind) (Ok.g (Ok.g (Ok.d (by subst q;rfl))))))))
    ·exact Ok.t rfl (Ok.r rfl (x:=iv v.g) rfl (Ok.k rfl (Ok.r rfl (x:=iv u.g) rfl (Ok.c (okRS2 _ _) λr q=>Ok.app (by grind) (Ok.g (Ok.g (Ok.d (by subst q;rfl))))))))
    ·exact Ok.t rfl (Ok.r rfl (x:=iv v.h) rfl (Ok.k rfl (Ok.r rfl (x:=iv u.h) rfl (Ok.c (okRS2 _ _) λr q=>Ok.app (by grind) (Ok.g (Ok.g (Ok.d (by subst q;rfl))))))))
   ·subst hy
    exact Ok.f rfl (Ok.d rfl)
def pad(n:Nat):za:=bs [128]++(strOfNums (List.replicate ((119 - n % 64) % 64) 0)++strOfNums (beN 8 (8 * (n:Int))))
def outV(v:V8):za:=strOfNums ((l8 v).flatMap (beN 4))
def digS(m:za)(v:V8):za:=outV (X7 (m++pad m.size) v)
theorem pad_size(n:Nat):(pad n).size=9+(119 - n % 64) % 64:=by
 unfold pad
 rw[ByteArray.size_append,ByteArray.size_append,strOfNums_size,strOfNums_size,wW,J9]
 show 1+_=_
 omega
theorem outV_size(v:V8):(outV v).size=32:=by
 unfold outV l8
 rw[strOfNums_size]
 simp[List.flatMap_cons,J9]
theorem digS_size(m:za)(v:V8):(digS m v).size=32:=outV_size _
theorem bShrU_eq(v:Int)(k:Nat)(h:k<=64):Z3 .u64 v (k:Int)=v / 2 ^ k:=by
 show v.fdiv (2 ^ (min (k:Int).toNat 64))=_
 rw[zN,Nat.min_eq_left h,Int.fdiv_eq_ediv_of_nonneg _ (Int.pow_nonneg (by decide))]
theorem bShrV_eq(v:Int)(k:Nat)(h:k<=32):Z3 .u32 v (k:Int)=v / 2 ^ k:=by
 show v.fdiv (2 ^ (min (k:Int).toNat 32))=_
 rw[zN,Nat.min_eq_left h,Int.fdiv_eq_ediv_of_nonneg _ (Int.pow_nonneg (by decide))]
theorem be8_eq{n:Nat}(h:n<=1000000):((((((([wu8 (Z3 .u64 (Z5 ((Z5 (n:Int)) * 8)) 56)]++[wu8 (Z3 .u64 (Z5 ((Z5 (n:Int)) * 8)) 48)])++[wu8 (Z3 .u64 (Z5 ((Z5 (n:Int)) * 8)) 40)])++[wu8 (Z3 .u64 (Z5 ((Z5 (n:Int)) * 8)) 32)])++[wu8 (Z3 .u64 (Z5 ((Z5 (n:Int)) * 8)) 24)])++[wu8 (Z3 .u64 (Z5 ((Z5 (n:Int)) * 8)) 16)])++[wu8 (Z3 .u64 (Z5 ((Z5 (n:Int)) * 8)) 8)])++[wu8 (Z3 .u64 (Z5 ((Z5 (n:Int)) * 8)) 0)])=beN 8 (8 * (n:Int)):=by
 have e1:Z5 (n:Int)=n:=by show IntKind.u64.wrap _=_;rw[IntKind.wrap_u64];omega
 have e2:Z5 ((n:Int) * 8)=8 * (n:Int):=by show IntKind.u64.wrap _=_;rw[IntKind.wrap_u64];omega
 rw[e1,e2]
 have f:∀k:Nat,k<=64->wu8 (Z3 .u64 (8 * (n:Int)) (k:Int))=(8 * (n:Int)) / 2 ^ k % 256:=λk hk=>by rw[bShrU_eq _ _ hk,wu8_eq]
 have g56:wu8 (Z3 .u64 (8 * (n:Int)) 56)=_:=f 56 (by decide)
 have g48:wu8 (Z3 .u64 (8 * (n:Int)) 48)=_:=f 48 (by decide)
 have g40:wu8 (Z3 .u64 (8 * (n:Int)) 40)=_:=f 40 (by decide)
 have g32:wu8 (Z3 .u64 (8 * (n:Int)) 32)=_:=f 32 (by decide)
 have g24:wu8 (Z3 .u64 (8 * (n:Int)) 24)=_:=f 24 (by decide)
 have g16:wu8 (Z3 .u64 (8 * (n:Int)) 16)=_:=f 16 (by decide)
 have g8:wu8 (Z3 .u64 (8 * (n:Int)) 8)=_:=f 8 (by decide)
 have g0:wu8 (Z3 .u64 (8 * (n:Int)) 0)=_:=f 0 (by decide)
 rw[g56,g48,g40,g32,g24,g16,g8,g0]
 simp only[beN,List.nil_append,List.cons_append,List.cons.injEq,and_true]
 omega
theorem be4_eq(w:W32):[wu8 (Z3 .u32 (iv w) 24),wu8 (Z3 .u32 (iv w) 16),wu8 (Z3 .u32 (iv w) 8),wu8 (iv w)]=beN 4 (iv w):=by
 have h:=T3 w
 have f:∀k:Nat,k<=32->wu8 (Z3 .u32 (iv w) (k:Int))=(iv w) / 2 ^ k % 256:=λk hk=>by rw[bShrV_eq _ _ hk,wu8_eq]
 have g24:wu8 (Z3 .u32 (iv w) 24)=_:=f 24 (by decide)
 have g16:wu8 (Z3 .u32 (iv w) 16)=_:=f 16 (by decide)
 have g8:wu8 (Z3 .u32 (iv w) 8)=_:=f 8 (by decide)
 rw[g24,g16,g8,wu8_eq]
 simp only[beN,List.nil_append,List.cons_append,List.cons.injEq,and_true]
 omega
theorem okDEND(m:za)(v0:V8)(hm:m.size<=500000):SOk (s279 (hashV m v0)) (λr=>r=digS m v0):=by
 unfold s279
 refine SOk.fn ?_
 have ht:(m.extract (64 * (m.size / 64)) m.size).size=m.size % 64:=by rw[ByteArray.size_extract];omega
 have hz:(m.extract (64 * (m.size / 64)) m.size++pad m.size).size<=200:=by rw[ByteArray.size_append,ht,pad_size];omega
 have hc:=mixS_app (m:=m) (s:=pad m.size) (v:=v0) rfl
 have hp:pad m.size=pad m.size:=rfl
 conv at hp=>rhs;unfold pad
 unfold hashV g279
 dsimp only
 generalize m.extract (64 * (m.size / 64)) m.size=t at ht hz hc ⊢
 generalize X7 m v0=u0 at hc ⊢
 have e1:Int.tmod (Q7 ((119:Int) - (t.size:Int))) 64=(((119 - m.size % 64) % 64:Nat):Int):=by
  rw[ht,Z9 (by omega) (by omega),Int.tmod_eq_emod_of_nonneg (by omega)];omega
 have hq:(119 - m.size % 64) % 64 < 64:=by omega
 have z1:(bs [128]).size=1:=rfl
 refine Ok.o rfl (Ok.k (by rw[z1];simp;omega) (Ok.o (r:=()) ?_ (Ok.o rfl ?_)))
 ·show (bif decide (0<=(Int.tmod (Q7 ((119:Int) - (t.size:Int))) 64))&&decide ((Int.tmod (Q7 ((119:Int) - (t.size:Int))) 64)<=(Int.tmod (Q7 ((119:Int) - (t.size:Int))) 64))&&decide (1 * (Int.tmod (Q7 ((119:Int) - (t.size:Int))) 64).toNat<=281474976710656)&&decide ((Int.tmod (Q7 ((119:Int) - (t.size:Int))) 64)<=9223372036854775807) then some () else none)=some ()
  rw[e1,ww (by omega),ww (by omega),ww (by omega),ww (by omega)];rfl
 rw[e1,zN]
 generalize (119 - m.size % 64) % 64=q at hp hq ⊢
 have zq:(strOfNums (List.replicate q (0:Int))).size=q:=by rw[strOfNums_size,wW]
 have zz:∀{a:za} {n:Nat} {x:Int},a.size<=n->n<=1000->decide (a.size+(strOfNums [x]).size<=9223372036854775807)=true:=λh1 h2=>by rw[strOfNums_size];simp;omega
 have z2:(t++bs [128]).size<=64:=by rw[ByteArray.size_append,z1];omega
 refine Ok.k (by rw[zq];simp only[zG];omega) ?_
 have z3:((t++bs [128])++(strOfNums (List.replicate q (0:Int)))).size<=128:=by rw[ByteArray.size_append,zq];omega
 have hT:((t++bs [128])++(strOfNums (List.replicate q (0:Int))))++strOfNums (beN 8 (8 * (m.size:Int)))=t++pad m.size:=by rw[hp,ByteArray.append_assoc,ByteArray.append_assoc]
 generalize (t++bs [128])++(strOfNums (List.replicate q (0:Int)))=a at z3 hT ⊢
 rw[<-be8_eq (by omega)] at hT
 simp only[C9,<-ByteArray.append_assoc] at hT
 have up:∀{a:za} {n:Nat} (x:Int),a.size<=n->(a++strOfNums [x]).size<=n+1:=λx h=>by rw[ByteArray.size_append,strOfNums_size];simpa using h
 have y1:=up (wu8 (Z3 .u64 (Z5 ((Z5 (m.size:Int)) * 8)) 56)) z3
 have y2:=up (wu8 (Z3 .u64 (Z5 ((Z5 (m.size:Int)) * 8)) 48)) y1
 have y3:=up (wu8 (Z3 .u64 (Z5 ((Z5 (m.size:Int)) * 8)) 40)) y2
 have y4:=up (wu8 (Z3 .u64 (Z5 ((Z5 (m.size:Int)) * 8)) 32)) y3
 have y5:=up (wu8 (Z3 .u64 (Z5 ((Z5 (m.size:Int)) * 8)) 24)) y4
 have y6:=up (wu8 (Z3 .u64 (Z5 ((Z5 (m.size:Int)) * 8)) 16)) y5
 have y7:=up (wu8 (Z3 .u64 (Z5 ((Z5 (m.size:Int)) * 8)) 8)) y6
 refine Ok.k (zz z3 (by decide)) (Ok.g (Ok.k (zz y1 (by decide)) (Ok.g (Ok.k (zz y2 (by decide)) (Ok.g (Ok.k (zz y3 (by decide)) (Ok.g (Ok.k (zz y4 (by decide)) (Ok.g (Ok.k (zz y5 (by decide)) (Ok.g (Ok.k (zz y6 (by decide)) (Ok.g (Ok.k (zz y7 (by decide)) (Ok.o rfl ?_)))))))))))))))
 rw[hT]
 refine Ok.c (okDMIX (t++pad m.size) u0 t _ (by omega)) λr hr=>?_
 rw[hc] at hr
 subst hr
 unfold digS outV
 generalize X7 (m++pad m.size) v0=u
 refine Ok.g (Ok.b (R:=λe=>e=(l8 u).flatMap (beN 4)) ?_ λe he=>Ok.o rfl (Ok.d (by rw[he])))
 refine Ok.s 8 (by decide) (λk y=>y.1=((l8 u).take k).flatMap (beN 4)/\y.2=(k:Int)) ⟨rfl,rfl⟩ (λk y hy hk=>?_) λy hy=>?_
 ·obtain⟨l,i⟩:=y
  obtain⟨hl,rfl⟩:l=((l8 u).take k).flatMap (beN 4)/\i=(k:Int):=hy
  have hlen:l.length=4 * k:=by
   rw[hl,List.length_flatMap]
   simp only[J9,List.map_const',List.sum_replicate_nat,wV,l8,wG,List.length_nil]
   omega
  refine Ok.t (by simp;omega) ?_
  have fin:∀w:W32,(l8 u)[k]?=some (iv w)->(l++[wu8 (Z3 .u32 (iv w) 24),wu8 (Z3 .u32 (iv w) 16),wu8 (Z3 .u32 (iv w) 8),wu8 (iv w)])=((l8 u).take (k+1)).flatMap (beN 4)/\Q7 ((k:Int)+1)=((k+1:Nat):Int):=λw hw=>⟨by
   rw[be4_eq,hl,List.take_add_one,hw,List.flatMap_append];simp,Y0 hk (by decide)⟩
  have sz:∀(x:List Int),x.length=4->(l.length+x.length) * 1<=140737488355328:=λx hx=>by rw[hlen,hx];omega
  have:k=0\/k=1\/k=2\/k=3\/k=4\/k=5\/k=6\/k=7:=by omega
  rcases this with rfl|rfl|rfl|rfl|rfl|rfl|rfl|rfl
  ·exact Ok.ceq rfl (Ok.app (sz _ rfl) (Ok.g (Ok.g (Ok.d (fin u.a rfl)))))
  ·exact Ok.ceq rfl (Ok.app (sz _ rfl) (Ok.g (Ok.g (Ok.d (fin u.b rfl)))))
  ·exact Ok.ceq rfl (Ok.app (sz _ rfl) (Ok.g (Ok.g (Ok.d (fin u.c rfl)))))
  ·exact Ok.ceq rfl (Ok.app (sz _ rfl) (Ok.g (Ok.g (Ok.d (fin u.d rfl)))))
  ·exact Ok.ceq rfl (Ok.app (sz _ rfl) (Ok.g (Ok.g (Ok.d (fin u.e rfl)))))
  ·exact Ok.ceq rfl (Ok.app (sz _ rfl) (Ok.g (Ok.g (Ok.d (fin u.f rfl)))))
  ·exact Ok.ceq rfl (Ok.app (sz _ rfl) (Ok.g (Ok.g (Ok.d (fin u.g rfl)))))
  ·exact Ok.ceq rfl (Ok.app (sz _ rfl) (Ok.g (Ok.g (Ok.d (fin u.h rfl)))))
 ·obtain⟨l,i⟩:=y
  obtain⟨hl,rfl⟩:l=((l8 u).take 8).flatMap (beN 4)/\i=((8:Nat):Int):=hy
  exact Ok.f rfl (Ok.d hl)
def cat:List za->za
 | []=>zb
 | x :: l=>x++cat l
theorem cat_app(l k:List za):cat (l++k)=cat l++cat k:=by
 induction l with
 | nil=>simp[cat]
 | cons x l ih=>rw[List.cons_append,cat,cat,ih,ByteArray.append_assoc]
theorem cat_one(x:za):cat [x]=x:=by simp[cat]
theorem cat_size{l:List za}(h:∀s,s∈l->s.size<=100000):(cat l).size<=100000 * l.length:=by
 induction l with
 | nil=>simp[cat]
 | cons x l ih=>
  grind [List.mem_cons_of_mem,List.mem_cons_self,ByteArray.size_append,List.length_cons,cat]
theorem mixS_nil(v:V8):X7 zb v=v:=by unfold X7;rfl
abbrev S10:=Int×Int×Int×Int×Int×Int×Int×Int×za×Int
def X0(m:za)(v0:V8):S10:=(iv (X7 m v0).a,iv (X7 m v0).b,iv (X7 m v0).c,iv (X7 m v0).d,iv (X7 m v0).e,iv (X7 m v0).f,iv (X7 m v0).g,iv (X7 m v0).h,m.extract (64 * (m.size / 64)) m.size,((m.size:Nat):Int))
theorem okDSUM(v0:V8)(l:List za)(hl:l.length<=3)(hs:∀s,s∈l->s.size<=100000):SOk (s262 (iv v0.a) (iv v0.b) (iv v0.c) (iv v0.d) (iv v0.e) (iv v0.f) (iv v0.g) (iv v0.h) l) (λr=>r=digS (cat l) v0):=by
 unfold s262
 refine SOk.fn ?_
 unfold g262
 have hc:=cat_size hs
 refine Ok.b (R:=λe=>e=X0 (cat l) v0) ?_ λe he=>?_
 ·refine Ok.s l.length (by omega) (λk y=>y=((X0 (cat (l.take k)) v0).1,(X0 (cat (l.take k)) v0).2.1,(X0 (cat (l.take k)) v0).2.2.1,(X0 (cat (l.take k)) v0).2.2.2.1,(X0 (cat (l.take k)) v0).q.1,(X0 (cat (l.take k)) v0).q.2.1,(X0 (cat (l.take k)) v0).q.2.2.1,(X0 (cat (l.take k)) v0).q.2.2.2.1,(X0 (cat (l.take k)) v0).q.q.1,(X0 (cat (l.take k)) v0).q.q.2,(k:Int))) ?_ (λk y hy hk=>?_) λy hy=>?_
  ·simp_all [List.take_zero,mixS_nil,X0,cat]
  ·subst hy
   obtain⟨x,hx,hx'⟩:=M5 (l:=l) (k:=k) hk
   have hm:cat (l.take (k+1))=cat (l.take k)++x:=by rw[List.take_add_one,hx',cat_app];simp[cat]
   have hz:=cat_size (l:=l.take k) λs h=>hs s (qa h)
   have hx2:=hs x (zO hx')
   rw[wV] at hz
   rw[hm]
   generalize cat (l.take k)=m at hz ⊢
   refine Ok.t (by grind [U6]) (Ok.r (by simp) hx (Ok.c (show SOk _ _ from okDADD x m v0 (by omega)) λr hr=>Ok.d ?_))
   grind [Y0,X0,Q7]
  grind [Ok.f,U6,Ok.d,List.take_length]
 ·subst he
  exact Ok.c (show SOk _ _ from okDEND (cat l) v0 (by omega)) λr hr=>Ok.d hr
def xk(c:Int)(s:za):za:=strOfNums ((D6 (List.replicate 64 (0:Int)) 0 (Z1 s)).map λx=>K9 .u8 x c)
theorem map_set{f:Int->Int}{L:List Int}{k:Nat}{x:Int}(h:L[k]?=some x):((L.take k).map f++L.drop k).set (0+k) (f x)=(L.take (k+1)).map f++L.drop (k+1):=by
 have hk:k < L.length:=(by grind)
 have hx:L[k]=x:=(by grind)
 rw[zX,List.drop_eq_getElem_cons hk,List.take_add_one,h,hx,List.set_append_right _ _ (by simp;omega)]
 simp[Nat.min_eq_left (Nat.le_of_lt hk)]
theorem map_get{f:Int->Int}{L:List Int}{k:Nat}{x:Int}(h:L[k]?=some x):((L.take k).map f++L.drop k)[0+k]?=some x:=by
 grind
theorem key_len(s:za)(hs:s.size<=64):(D6 (List.replicate 64 (0:Int)) 0 (Z1 s)).length=64:=by
 grind [over_length,J0,List.length_replicate]
theorem xk_size(c:Int)(s:za)(hs:s.size<=64):(xk c s).size=64:=by
 grind [strOfNums_size,List.length_map,key_len,xk]
theorem okDMAC1(c:Int)(s:za)(hs:s.size<=64):SOk (s263 c s) (λr=>r=xk c s):=by
 unfold s263
 refine SOk.fn ?_
 unfold g263 xk
 have hL:=key_len s hs
 generalize D6 (List.replicate 64 (0:Int)) 0 (Z1 s)=L at hL ⊢
 refine Ok.o rfl (Ok.o (r:=()) ?_ (Ok.b (R:=λe=>e=L.map λx=>K9 .u8 x c) ?_ λe he=>Ok.fact (by grind) (Ok.o rfl (Ok.d (by rw[he])))))
 ·show (bif decide (s.size<=64)&&decide (0 < 64) then some () else none)=some ()
  grind
 ·refine Ok.s 64 (by decide) (λk y=>y=((L.take k).map (λx=>K9 .u8 x c)++L.drop k,(k:Int))) rfl (λk y hy hk=>?_) λy hy=>?_
  ·subst hy
   obtain⟨x,hx,hx'⟩:=M5 (l:=L) (k:=k) (by omega)
   have hg:=map_get (f:=λx=>K9 .u8 x c) hx'
   refine Ok.t (by simp;omega) (Ok.k (by simp;omega) (Ok.r rfl hg (Ok.k (by simp;omega) (Ok.r rfl hg (Ok.re (Ok.d ?_))))))
   grind [Y0,map_set,List.set,Q7,K9]
  ·subst hy
   refine Ok.f rfl (Ok.d ?_)
   grind
def V6(key:za)(v0:V8):za:=if 64 < key.size then digS key v0 else key
theorem keyOf_size(key:za)(v0:V8):(V6 key v0).size<=64:=by
 grind [digS_size,V6]
def macS(v0:V8)(key s:za):za:=digS (xk 92 (V6 key v0)++digS (xk 54 (V6 key v0)++s) v0) v0
theorem macS_size(v0:V8)(key s:za):(macS v0 key s).size=32:=digS_size _ _
theorem okDMAC2(v0:V8)(key s:za)(hk:key.size<=100000)(hs:s.size<=100000):SOk (s237 (iv v0.a) (iv v0.b) (iv v0.c) (iv v0.d) (iv v0.e) (iv v0.f) (iv v0.g) (iv v0.h) key [s]) (λr=>r=macS v0 key s):=by
 unfold s237
 refine SOk.fn ?_
 unfold g237 macS
 have hz:=keyOf_size key v0
 refine Ok.b (R:=λx=>x=V6 key v0) ?_ λx he=>?_
 ·refine Ok.e (λhc=>Ok.v (okDSUM v0 [key] (show 1<=3 by decide) (by simpa using hk)) λr hr=>Ok.d ?_) λhc=>Ok.d ?_
  ·have hc:(64:Int) < (key.size:Int):=by simpa using hc
   have hc:64 < key.size:=by omega
   rw[hr,V6,if_pos hc,cat_one]
  ·have hc:¬(64:Int) < (key.size:Int):=by simpa using hc
   have hc:¬64 < key.size:=by omega
   rw[V6,if_neg hc]
 ·subst he
  have z1:=xk_size 92 (V6 key v0) hz
  have z2:=xk_size 54 (V6 key v0) hz
  refine Ok.v (okDMAC1 92 _ hz) λr1 h1=>Ok.v (okDMAC1 54 _ hz) λr2 h2=>Ok.app (by grind) ?_
  grind [Ok.v,okDSUM,cat_app,cat_one,digS_size,Ok.d,xk,V6,digS,cat]
def vS:V8:=⟨1779033703,3144134277,1013904242,2773480762,1359893119,2600822924,528734635,1541459225⟩
def macF(key s:za):za:=macS vS key s
theorem macF_ok(key s:za)(hk:key.size<=100000)(hs:s.size<=100000):(s237 1779033703 3144134277 1013904242 2773480762 1359893119 2600822924 528734635 1541459225 key [s]).o=some (macF key s)/\(macF key s).size=32:=by
 obtain⟨r,h1,h2⟩:=okDMAC2 vS key s hk hs
 subst h2
 exact⟨h1,macS_size _ _ _⟩
theorem okDLONG(a b:za)(ha:a.size<=4096)(hb:b.size<=4096):SOk (s235 [a,b]) (λr=>r=false):=by
 unfold s235
 show Ok (g235 [a,b]) _
 refine Ok.p (R:=λe=>e=.inr ()) ?_ (λe he=>by cases he) (λe he=>Ok.d rfl)
 refine Ok.s 2 (by decide) (λk y=>y=(k:Int)) rfl (λk y hy hk=>?_) λy hy=>?_
 ·subst hy
  refine Ok.t (by grind [U6]) ?_
  obtain⟨x,hx,hx'⟩:=M5 (l:=[a,b]) (k:=k) hk
  have hm:=zO hx'
  have hz:x.size<=4096:=by
   grind
  grind [Ok.r,Ok.f,Ok.d,Y0]
 ·subst hy
  exact Ok.f (by rw[U6];rfl) (Ok.d rfl)
theorem okDMAC(key s:za)(hk:key.size<=4096)(hs:s.size<=4096):SOk (s197 key s) (λr=>r=(macF key s,0)):=by
 unfold s197
 show Ok (g197 key s) _
 refine Ok.v (okDLONG key s hk hs) λr hr=>?_
 subst hr
 refine Ok.f rfl (Ok.c (SOk.o made_eq) λr hr=>?_)
 subst hr
 exact Ok.v (SOk.o (macF_ok key s (by omega) (by omega)).1) (by grind [Ok.d])
def tabS(t:E6):Prop:=t.gt=l8 vS/\t.fK=U2
theorem okRALL2(t:E6)(ht:tabS t)(s:za)(hs:s.size<=1000000)(h6:s.size % 64=0)(v:V8):SOk (s271 t (l8 v) s) (λr=>r=l8 (X7 s v)):=by
 unfold s271
 refine SOk.fn ?_
 unfold g271
 refine Ok.b (R:=λe=>e=l8 (X7 s v)) ?_ λe he=>Ok.d he
 refine Ok.s (s.size / 64) (by omega) (λk y=>y=(l8 (mixN s v k),((64 * k:Nat):Int))) rfl (λk y hy hk=>?_) λy hy=>?_
 ·subst hy
  have e1:Q7 (((64 * k:Nat):Int)+64)=((64 * k+64:Nat):Int):=by grind [Z9]
  simp only[e1,zN]
  have ez:(s.extract (64 * k) (64 * k+64)).size=64:=by rw[ByteArray.size_extract];omega
  exact Ok.t (by simp;omega) (Ok.k (by simp;omega) (Ok.c (okRMIXED t ht.2 _ _ ez) λr hr=>Ok.d (by rw[hr];rfl)))
 grind [Ok.f,Z9,Ok.d,l8,mixN,X7]
theorem rep_snoc(n:Nat)(x:Int):List.replicate n x++[x]=List.replicate (n+1) x:=by
 rw[List.replicate_succ']
theorem S8(k:Nat)(n:Int)(h0:0<=n)(h:n < 9223372036854775808)(hk:k<=100):SOk (s143 (k:Int) n) (λr=>r=strOfNums (beN k n)):=by
 unfold s143
 refine SOk.fn ?_
 unfold g143
 refine Ok.b (R:=λe=>e=strOfNums (beN k n)) ?_ λe he=>Ok.d he
 refine Ok.s k (by omega) (λi y=>∃m l,y=(m,strOfNums l,(i:Int))/\0<=m/\m < 9223372036854775808/\l.length=i/\beN k n=beN (k - i) m++l) ⟨n,[],rfl,h0,h,rfl,by simp⟩ (λi y hy hi=>?_) λy hy=>?_
 ·obtain⟨m,l,rfl,h1,h2,hl,hb⟩:=hy
  have em:Int.tmod m 256=m % 256:=(by grind)
  have ed:Int.tdiv m 256=m / 256:=(by grind)
  refine Ok.t (by simp;omega) (Ok.k ?_ (Ok.d ⟨m / 256,m % 256 :: l,?_,by omega,by omega,by simp[hl],?_⟩))
  ·simp only[strOfNums_size,zG]
   grind
  ·show (Q7 (Int.tdiv m 256),strOfNums [wu8 (Int.tmod m 256)]++strOfNums l,Q7 ((i:Int)+1))=_
   rw[ed,em,Z9 (by omega) (by omega),Y0 hi (by omega),wu8_eq,<-C9,show m % 256 % 256=m % 256 by omega]
   rfl
  ·rw[hb,show k - i=(k - (i+1))+1 by omega,beN]
   simp
 ·obtain⟨m,l,rfl,h1,h2,hl,hb⟩:=hy
  refine Ok.f (by simp) (Ok.d ?_)
  rw[hb,Nat.sub_self]
  rfl
theorem okRCLOSING(s:za)(n:Nat)(hs:s.size=n % 64)(hn:n<=1000000):SOk (s272 s (n:Int)) (λr=>r=s++pad n):=by
 unfold s272
 refine SOk.fn ?_
 unfold g272
 have z1:(bs [128]).size=1:=rfl
 have z0:(bs [0]).size=1:=rfl
 have zr:∀j:Nat,((s++bs [128])++strOfNums (List.replicate j 0)).size=n % 64+1+j:=(by grind [ByteArray.size_append,strOfNums_size,List.length_replicate])
 refine Ok.k (by grind) (Ok.b (R:=λe=>e=(s++bs [128])++strOfNums (List.replicate ((119 - n % 64) % 64) 0)) ?_ λe he=>?_)
 ·refine Ok.s ((119 - n % 64) % 64) (by omega) (λk y=>y=(s++bs [128])++strOfNums (List.replicate k 0)) (ByteArray.append_empty).symm (λk y hy hk=>?_) λy hy=>?_
  ·grind [Int.tmod_eq_emod_of_nonneg,Ok.t,Ok.k,Ok.d,ByteArray.append_assoc,C9,rep_snoc,Int.tmod,bs,strOfNums,List.replicate]
  ·subst hy
   have em:Int.tmod (((s++bs [128])++strOfNums (List.replicate ((119 - n % 64) % 64) 0)).size:Int) 64=56:=by grind
   exact Ok.f (by rw[em];rfl) (Ok.d rfl)
 ·subst he
  have e8:Q7 ((8:Int) * (n:Int))=8 * (n:Int):=Z9 (by omega) (by omega)
  refine Ok.b (R:=λe=>e=((s++bs [128])++strOfNums (List.replicate ((119 - n % 64) % 64) 0),strOfNums (beN 8 (8 * (n:Int))))) ?_ λe he=>?_
  ·refine Ok.s 8 (by decide) (λi y=>∃m l,y=(m,strOfNums l,(i:Int))/\0<=m/\m < 9223372036854775808/\l.length=i/\beN 8 (8 * (n:Int))=beN (8 - i) m++l) ⟨8 * (n:Int),[],by rw[e8];rfl,by omega,by omega,rfl,by simp⟩ (λi y hy hi=>?_) λy hy=>?_
   ·obtain⟨m,l,rfl,h1,h2,hl,hb⟩:=hy
    have em:Int.tmod m 256=m % 256:=(by grind)
    have ed:Int.tdiv m 256=m / 256:=(by grind)
    refine Ok.t (by simp;omega) (Ok.k ?_ (Ok.d ⟨m / 256,m % 256 :: l,?_,by omega,by omega,by simp[hl],?_⟩))
    ·simp only[strOfNums_size,zG]
     grind
    ·show (Q7 (Int.tdiv m 256),strOfNums [wu8 (Int.tmod m 256)]++strOfNums l,Q7 ((i:Int)+1))=_
     rw[ed,em,Z9 (by omega) (by omega),Y0 hi (by omega),wu8_eq,<-C9,show m % 256 % 256=m % 256 by omega]
     rfl
    ·rw[hb,show 8 - i=(8 - (i+1))+1 by omega,beN]
     simp
   ·obtain⟨m,l,rfl,h1,h2,hl,hb⟩:=hy
    refine Ok.f (by simp) (Ok.d ?_)
    rw[hb,Nat.sub_self]
    rfl
  grind [Ok.k,strOfNums_size,J9,Ok.d,ByteArray.append_assoc,pad]
theorem l8_get(v:V8){k:Nat}{x:Int}(h:(l8 v)[k]?=some x):0<=x/\x < 4294967296:=by
 have:=zO h
 simp only[l8,zT,wg,or_false] at this
 rcases this with rfl|rfl|rfl|rfl|rfl|rfl|rfl|rfl<;>exact T3 _
theorem okROCTETS(v:V8):SOk (s270 (l8 v)) (λr=>r=outV v):=by
 unfold s270
 refine SOk.fn ?_
 unfold g270 outV
 have hl:(l8 v).length=8:=rfl
 have hx:=@l8_get v
 generalize l8 v=L at hl hx ⊢
 refine Ok.b (R:=λe=>e=strOfNums (L.flatMap (beN 4))) ?_ λe he=>Ok.d he
 refine Ok.s 8 (by decide) (λk y=>y=(strOfNums ((L.take k).flatMap (beN 4)),(k:Int))) rfl (λk y hy hk=>?_) λy hy=>?_
 ·subst hy
  obtain⟨x,h1,h2⟩:=M5 (l:=L) (k:=k) (by omega)
  have hr:=hx h2
  have zk:((L.take k).flatMap (beN 4)).length=4 * k:=by
   rw[List.length_flatMap]
   simp only[J9,List.map_const',List.sum_replicate_nat,wV,hl]
   omega
  refine Ok.t (by grind [U6]) (Ok.r (by simp) h1 (Ok.c (show SOk _ _ from S8 4 x hr.1 (by omega) (by decide)) λr hr=>?_))
  grind [Ok.k,strOfNums_size,J9,Ok.d,Y0,C9,List.take_add_one,Q7]
 grind [Ok.f,U6,Ok.d,List.take_of_length_le,strOfNums]
theorem okRSUM(t:E6)(ht:tabS t)(s:za)(hs:s.size<=500000):SOk (s251 t s) (λr=>r=digS s vS):=by
 unfold s251
 refine SOk.fn ?_
 unfold g251
 have e1:Int.tdiv (s.size:Int) 64=((s.size / 64:Nat):Int):=by grind
 have e2:Q7 ((Q7 (Int.tdiv (s.size:Int) 64)) * 64)=((64 * (s.size / 64):Nat):Int):=by
  grind [Z9]
 simp only[e2,zN]
 have hz:(s.extract (64 * (s.size / 64)) s.size).size=s.size % 64:=by rw[ByteArray.size_extract];omega
 have h0:(s.extract 0 (64 * (s.size / 64))).size=64 * (s.size / 64):=by rw[ByteArray.size_extract];omega
 have hm:s.extract 0 (64 * (s.size / 64))++(s.extract (64 * (s.size / 64)) s.size++pad s.size)=s++pad s.size:=by
  rw[<-ByteArray.append_assoc,ByteArray.extract_append_extract,Nat.min_eq_left (by omega),Nat.max_eq_right (by omega),ByteArray.extract_zero_size]
 have hp:=pad_size s.size
 have hT:(s++pad s.size).size % 64=0:=by grind
 have hT2:(s++pad s.size).size<=1000000:=by grind
 refine Ok.k (by simp;omega) (Ok.k (by simp;omega) (Ok.c (okRCLOSING _ s.size hz (by omega)) λr hr=>?_))
 subst hr
 refine Ok.k (by grind) ?_
 rw[hm,ht.1]
 exact Ok.c (okRALL2 t ht _ hT2 hT vS) λr hr=>by subst hr;exact Ok.c (okROCTETS _) λr hr=>Ok.d hr
theorem okRCHANGED(s:za)(c:Int)(hc:wu8 c=c)(hs:s.size<=64):SOk (s252 s c) (λr=>r=xk c s):=by
 unfold s252
 refine SOk.fn ?_
 unfold g252 xk
 have hL:=key_len s hs
 generalize D6 (List.replicate 64 (0:Int)) 0 (Z1 s)=L at hL ⊢
 refine Ok.o rfl (Ok.o (r:=()) ?_ (Ok.b (R:=λe=>e=L.map λx=>K9 .u8 x c) ?_ λe he=>Ok.fact (by grind) (Ok.o rfl (Ok.d (by rw[he])))))
 ·show (bif decide (s.size<=64)&&decide (0 < 64) then some () else none)=some ()
  grind
 ·refine Ok.s 64 (by decide) (λk y=>y=((L.take k).map (λx=>K9 .u8 x c)++L.drop k,(k:Int))) rfl (λk y hy hk=>?_) λy hy=>?_
  ·subst hy
   obtain⟨x,hx,hx'⟩:=M5 (l:=L) (k:=k) (by omega)
   have hg:=map_get (f:=λx=>K9 .u8 x c) hx'
   refine Ok.t (by simp;omega) (Ok.k (by simp;omega) (Ok.r rfl hg (Ok.k (by simp;omega) (Ok.r rfl hg (Ok.re (Ok.d ?_))))))
   grind [Y0,map_set,List.set,Q7,K9]
  ·subst hy
   refine Ok.f rfl (Ok.d ?_)
   grind
theorem okRMAC(t:E6)(ht:tabS t)(key s:za)(hk:key.size<=100000)(hs:s.size<=100000):SOk (s215 t key s) (λr=>r=macF key s):=by
 unfold s215
 refine SOk.fn ?_
 unfold g215 macF macS
 have hz:=keyOf_size key vS
 refine Ok.b (R:=λx=>x=V6 key vS) ?_ λx he=>?_
 ·refine Ok.e (λhc=>Ok.c (okRSUM t ht key (by omega)) λr hr=>Ok.d ?_) λhc=>Ok.d ?_
  ·have hc:(64:Int) < (key.size:Int):=by simpa using hc
   rw[hr,V6,if_pos (by omega)]
  ·have hc:¬(64:Int) < (key.size:Int):=by simpa using hc
   rw[V6,if_neg (by omega)]
 ·subst he
  have z1:=xk_size 92 (V6 key vS) hz
  have z2:=xk_size 54 (V6 key vS) hz
  have z3:=digS_size (xk 54 (V6 key vS)++s) vS
  refine Ok.c (okRCHANGED _ 92 rfl hz) λr h1=>Ok.c (okRCHANGED _ 54 rfl hz) λr2 h2=>?_
  grind [Ok.k,Ok.c,okRSUM,ByteArray.size_append,Ok.d]
theorem okANUM(s:za)(h:s.size<=7):SOk (s135 s) (λr=>r=num (Z1 s)):=by
 have hl:=J0 s
 have hb:∀c,c∈Z1 s->0<=c/\c < 256:=λc hc=>G0 hc
 unfold s135
 show Ok (g135 s) _
 refine Ok.o rfl ?_
 refine Ok.b (R:=λe=>e=num (Z1 s)) ?_ λe he=>Ok.d he
 refine Ok.s s.size (by omega) (λk y=>k<=s.size/\y=(num ((Z1 s).take k),(k:Int))) ⟨Nat.zero_le _,rfl⟩ (λk y hy hk=>?_) λy hy=>?_
 ·obtain⟨_,rfl⟩:=hy
  refine Ok.t (by simp;omega) ?_
  obtain⟨x,hx,hx'⟩:=M5 (l:=Z1 s) (k:=k) (by omega)
  refine Ok.k (by simp;omega) (Ok.r rfl (x:=x) (by grind) (Ok.d ?_))
  grind [num_lt6,List.mem_of_getElem?,num_take,bOr_byte,Y0]
 ·obtain⟨_,rfl⟩:=hy
  grind [Ok.f,Ok.d,List.take_length,num,Z1]
def up4(n:Nat):Nat:=(n+3) / 4 * 4
theorem up4_le(n:Nat):n<=up4 n:=by unfold up4;omega
def L5(a:Q3):Prop:=(0<=a.fm/\a.fm < 65536)/\a.fp.size<=763
def Y4(l:List Q3):Nat:=(l.map λa=>4+up4 a.fp.size).sum
theorem sizeL_take{l:List Q3}{k:Nat}{x:Q3}(h:l[k]?=some x):Y4 (l.take (k+1))=Y4 (l.take k)+(4+up4 x.fp.size):=by
 grind [List.take_add_one,Y4]
theorem sizeL_le{l:List Q3}(h:∀a,a∈l->L5 a):Y4 l<=768 * l.length:=by
 induction l with
 | nil=>simp[Y4]
 | cons a l ih=>
  grind [List.mem_cons_of_mem,List.mem_cons_self,List.length_cons,L5,Y4,up4]
def z4(s:za):za:=strOfNums (List.replicate (up4 s.size - s.size) 0)
theorem z4_size(s:za):(s++z4 s).size=up4 s.size:=by
 grind [ByteArray.size_append,strOfNums_size,List.length_replicate,z4,up4]
theorem okPADG(s:za)(h:s.size<=100000):SOk (s205 s 4) (λr=>r=(s++z4 s,0)):=by
 unfold s205
 refine SOk.fn ?_
 unfold g205
 refine Ok.c (R:=λr=>r=true) ⟨true,by kernel_rfl,rfl⟩ λr hr=>?_
 subst hr
 have hlen:∀k,(Z1 s++List.replicate k (0:Int)).length=s.size+k:=λk=>by rw[wM,J0,wW]
 have hm:∀k,Int.tmod (((Z1 s++List.replicate k (0:Int)).length:Nat):Int) 4=(((s.size+k) % 4:Nat):Int):=(by grind)
 refine Ok.f rfl (Ok.o rfl (Ok.g (Ok.b (R:=λe=>e=Z1 s++List.replicate (up4 s.size - s.size) 0) ?_ λe he=>?_)))
 ·refine Ok.s (up4 s.size - s.size) (by unfold up4;omega) (λk y=>y=Z1 s++List.replicate k 0) (by simp) (λk y hy hk=>?_) λy hy=>?_
  ·subst hy
   refine Ok.k rfl (Ok.t ?_ (Ok.app (show ((Z1 s++List.replicate k (0:Int)).length+1) * 1<=140737488355328 by rw[hlen];unfold up4 at hk;omega) (Ok.g (Ok.g (Ok.d ?_)))))
   ·rw[hm]
    unfold up4 at hk
    simp;omega
   grind [List.append_assoc,List.replicate_succ',Z1,List.replicate]
  ·subst hy
   refine Ok.k rfl (Ok.f ?_ (Ok.d rfl))
   rw[hm]
   have:(s.size+(up4 s.size - s.size)) % 4=0:=by unfold up4;omega
   rw[this];rfl
 ·subst he
  refine Ok.o rfl (Ok.d ?_)
  rw[C9,C8]
  rfl
theorem okSSIZE(l:List Q3)(h:∀a,a∈l->L5 a)(hl:l.length<=1000):SOk (s193 l) (λr=>r=(Y4 l:Nat)):=by
 unfold s193
 show Ok (g193 l) _
 refine Ok.b (R:=λe=>e=((Y4 l:Nat):Int)) ?_ λe he=>Ok.d he
 refine Ok.s l.length (by omega) (λk y=>y=(((Y4 (l.take k):Nat):Int),(k:Int))) rfl (λk y hy hk=>?_) λy hy=>?_
 ·subst hy
  refine Ok.t (by grind [U6]) ?_
  obtain⟨x,hx,hx'⟩:=M5 (l:=l) (k:=k) hk
  refine Ok.r (by simp) hx (Ok.d ?_)
  have hax:=h x (zO hx')
  have hsz:=sizeL_le (l:=l.take k) λa ha=>h a (qa ha)
  have htl:(l.take k).length<=1000:=by grind
  obtain⟨_,h2⟩:=hax
  have e1:Q7 ((x.fp.size:Int)+3)=(x.fp.size:Int)+3:=Z9 (by omega) (by omega)
  have e2:Int.tdiv ((x.fp.size:Int)+3) 4=(((x.fp.size+3) / 4:Nat):Int):=by grind
  show _=_
  rw[sizeL_take hx']
  grind [Z9,Y0,Q7,Y4,Int.tdiv,up4]
 grind [Ok.f,U6,Ok.d,List.take_length,Y4]
def D9(m:Z8):Prop:=(0<=m.fG/\m.fG<=3)/\(0<=m.fH/\m.fH<=4095)/\m.fj.size=12/\m.fo.length<=30/\(∀a,a∈m.fo->L5 a)/\20+Y4 m.fo<=1200
theorem okSCHECK(m:Z8)(h:D9 m):SOk (s118 m) (λr=>r=0):=by
 obtain⟨⟨a1,a2⟩,⟨a3,a4⟩,a5,a6,a7,a8⟩:=h
 unfold s118
 show Ok (g118 m) _
 refine Ok.n (R:=λc=>c=false) ?_ λc hc=>?_
 ·refine Ok.f (by simp;omega) (Ok.f (by simp;omega) (Ok.f (by simp;omega) (Ok.f (by simp;omega) (Ok.f (by rw[a5];rfl) (Ok.d ?_)))))
  grind [U6]
 subst hc
 refine Ok.f rfl (Ok.p (R:=λe=>e=.inr ()) ?_ (λe he=>by cases he) λe he=>?_)
 ·refine Ok.s m.fo.length (by omega) (λk y=>y=(k:Int)) rfl (λk y hy hk=>?_) λy hy=>?_
  ·subst hy
   refine Ok.t (by grind [U6]) ?_
   obtain⟨x,hx,hx'⟩:=M5 (l:=m.fo) (k:=k) hk
   obtain⟨⟨b1,b2⟩,b3⟩:=a7 x (zO hx')
   refine Ok.r (by simp) hx (Ok.n (R:=λc=>c=false) ?_ λc hc=>?_)
   ·grind [Ok.f,Ok.d]
   ·subst hc
    exact Ok.f rfl (Ok.d (Y0 hk (by omega)))
  ·subst hy
   exact Ok.f (by rw[U6];simp) (Ok.d rfl)
 ·refine Ok.c (okSSIZE m.fo a7 (by omega)) λr hr=>?_
  subst hr
  refine Ok.f ?_ (Ok.d rfl)
  grind [Z9]
theorem okSIDX(l:List Q3)(k:Int)(hl:l.length<=1000):SOk (s133 l k) (λr=>Find l (λa=>a.fm=k) r):=by
 unfold s133
 show Ok (g133 l k) _
 refine Ok.p (R:=λe=>Find l (λa=>a.fm=k) (match e with|.inl r=>r|.inr _=>-1)) ?_ (λe he=>Ok.d he) (λe he=>Ok.d he)
 refine Ok.s l.length (by omega) (λi y=>y=(i:Int)/\∀j x,j < i->l[j]?=some x->¬x.fm=k) (by grind) (λi y hy hi=>?_) λy hy=>?_
 ·obtain⟨rfl,hup⟩:=hy
  refine Ok.t (by grind [U6]) ?_
  obtain⟨x,hx,hx'⟩:=M5 (l:=l) (k:=i) hi
  refine Ok.r (by simp) hx (Ok.c (R:=λr=>r=(x.fm==k)) ⟨_,rfl,rfl⟩ λr hr=>?_)
  subst hr
  refine Ok.e (λhc=>Ok.d ?_) λhc=>Ok.d ?_
  ·exact .inl (by grind)
  ·refine⟨Y0 hi (by omega),(by grind)⟩
 ·obtain⟨rfl,hup⟩:=hy
  exact Ok.f (by rw[U6];simp) (Ok.d (.inr ⟨rfl,none_of_upto hup⟩))
theorem okSIDX8(l:List Q3)(hl:l.length<=1000):SOk (s133_1 l) (λr=>Find l (λa=>a.fm=8) r):=by
 unfold s133_1
 show Ok (g133_1 l) _
 refine Ok.p (R:=λe=>Find l (λa=>a.fm=8) (match e with|.inl r=>r|.inr _=>-1)) ?_ (λe he=>Ok.d he) (λe he=>Ok.d he)
 refine Ok.s l.length (by omega) (λi y=>y=(i:Int)/\∀j x,j < i->l[j]?=some x->¬x.fm=8) (by grind) (λi y hy hi=>?_) λy hy=>?_
 ·obtain⟨rfl,hup⟩:=hy
  refine Ok.t (by grind [U6]) ?_
  obtain⟨x,hx,hx'⟩:=M5 (l:=l) (k:=i) hi
  refine Ok.r (by simp) hx (Ok.c (R:=λr=>r=(x.fm==8)) ⟨_,rfl,rfl⟩ λr hr=>?_)
  subst hr
  refine Ok.e (λhc=>Ok.d ?_) λhc=>Ok.d ?_
  ·exact .inl (by grind)
  ·refine⟨Y0 hi (by omega),(by grind)⟩
 ·obtain⟨rfl,hup⟩:=hy
  exact Ok.f (by rw[U6];simp) (Ok.d (.inr ⟨rfl,none_of_upto hup⟩))
theorem okSHAS(m:Z8)(k:Int)(hl:m.fo.length<=1000):SOk (s119 m k) (λr=>(r=true↔∃a,a∈m.fo/\a.fm=k)):=by
 unfold s119
 show Ok (g119 m k) _
 refine Ok.v (R:=λr=>(r=true↔∃a,a∈m.fo/\a.fm=k)) ?_ λr hr=>Ok.d hr
 unfold s194
 show Ok (g194 m.fo k) _
 refine Ok.c (okSIDX m.fo k hl) λr hr=>Ok.d ?_
 rw[decide_eq_true_iff]
 exact hr.nonneg
def u16(v:Int):za:=strOfNums (beN 2 v)
def encA(a:Q3):za:=u16 a.fm++u16 (a.fp.size:Nat)++(a.fp++z4 a.fp)
def W2:List Q3->za
 | []=>zb
 | a :: l=>encA a++W2 l
def headB(kd:Int)(n:Int)(id:za):za:=u16 kd++u16 n++strOfNums (beN 4 554869826)++id
theorem W0(v:Int):(u16 v).size=2:=by unfold u16;rw[H4,J9]
theorem encA_size(a:Q3):(encA a).size=4+up4 a.fp.size:=by
 grind [ByteArray.size_append,W0,z4_size,encA]
theorem I7(l:List Q3):(W2 l).size=Y4 l:=by
 induction l with
 | nil=>rfl
 | cons a l ih=>grind [ByteArray.size_append,encA_size,Y4,W2]
theorem headB_size(kd n:Int)(id:za):(headB kd n id).size=8+id.size:=by
 grind [ByteArray.size_append,W0,H4,J9,headB]
theorem wsM_eq{s t:za}(h:s.size+t.size<=1000000):wsM s t=some (s++t):=if_pos (by omega)
theorem pt2_eq{v:Int}{s:za}(h0:0<=v)(h:v < 65536)(hs:s.size<=100000):ptM 2 v s=some (s++u16 v):=by
 obtain⟨r,h1,h2⟩:=okPUT2 v h0 h
 unfold ptM
 rw[show (g198 2 v).run=some r from h1,h2]
 grind [wsM_eq,W0,u16]
theorem atM_eq{s:za}{a:Q3}(h:L5 a)(hs:s.size<=90000):atM s a=some (s++encA a):=by
 obtain⟨⟨h1,h2⟩,h3⟩:=h
 obtain⟨r,k1,k2⟩:=okPADG a.fp (by omega)
 have hz:=z4_size a.fp
 have hu:up4 a.fp.size<=764:=by unfold up4;omega
 unfold atM
 rw[pt2_eq h1 h2 (by omega)]
 simp only[zP]
 rw[pt2_eq (by omega) (by omega) (by rw[ByteArray.size_append,W0];omega)]
 simp only[zP]
 rw[show (g205 a.fp 4).run=some r from k1,k2]
 grind [wsM_eq,ByteArray.size_append,W0,ByteArray.append_assoc,encA]
theorem foldAt{l:List Q3}:∀{s:za},(∀a,a∈l->L5 a)->s.size+768 * l.length<=90000->l.foldlM atM s=some (s++W2 l):=by
 induction l with
 | nil=>grind [ByteArray.append_empty,W2]
 | cons a l ih=>
  intro s h hs
  have ha:=h a List.mem_cons_self
  rw[wG] at hs
  rw[List.foldlM_cons,atM_eq ha (by omega)]
  show l.foldlM atM (s++encA a)=_
  rw[ih (by grind) (by rw[ByteArray.size_append,encA_size];have:=ha.2;grind [up4]),W2,ByteArray.append_assoc]
theorem written_eq{c m kd more:Int}{id:za}{l:List Q3}(hk:(g204 c m).run=some kd)(h0:0<=kd)(h1:kd < 65536)(hid:id.size=12)(hl:l.length<=30)(ha:∀a,a∈l->L5 a)(hm:0<=more/\more<=100) :
  writtenM c m id l more=some (headB kd ((Y4 l:Nat)+more) id++W2 l):=by
 obtain⟨z,k1,k2⟩:=okSSIZE l ha (by omega)
 have hz:=sizeL_le ha
 obtain⟨q,q1,q2⟩:=okPUT4 554869826 (by decide) (by decide)
 have hd:hdM c m id l more=some (headB kd ((Y4 l:Nat)+more) id):=by
  unfold hdM
  rw[hk]
  simp only[zP]
  rw[pt2_eq h0 h1 (by decide)]
  simp only[zP]
  rw[show (g193 l).run=some z from k1,k2]
  simp only[zP]
  rw[Z9 (by omega) (by omega),pt2_eq (by omega) (by omega) (by rw[ByteArray.size_append,W0];decide)]
  simp only[zP]
  unfold ptM
  rw[show (g198 4 554869826).run=some q from q1,q2]
  simp_all [zP,wsM_eq,ByteArray.size_append,W0,H4,J9,ByteArray.empty_append,headB]
 unfold writtenM
 rw[hd]
 simp only[zP]
 rw[foldAt ha (by rw[headB_size,hid];omega)]
 simp only[zP]
 rw[if_neg (by rw[ByteArray.size_append,headB_size,hid];omega)]
theorem okWRITTEN(m:Z8)(l:List Q3)(more kd:Int)(hk:(g204 m.fG m.fH).run=some kd)(h0:0<=kd)(h1:kd < 65536)(hid:m.fj.size=12)(hl:l.length<=30)(ha:∀a,a∈l->L5 a)(hm:0<=more/\more<=100) :
  SOk (s126 m l more) (λr=>r=headB kd ((Y4 l:Nat)+more) m.fj++W2 l):=⟨_,written_eq hk h0 h1 hid hl ha hm,rfl⟩
end Go.Proofs.YtjpahkpfkohfkaaGreatDoor
