/- A code of octets (digest.Mac) is made always, and has 32 octets. Plain lemmas on the guides. The digest of octets and their code: what they are. The ..; no conditions. -/
import Derived.Test.YtjdieimefebnfaaGreatDoorK11
import Derived.Test.YtjdieimefebnfaaGreatDoorK12
import Derived.Test.YtjdieimefebnfaaGreatDoorK8
import Derived.Test.YtjdieimefebnfaaGreatDoorK7
import Derived.KernelRfl
set_option linter.unusedVariables false
set_option linter.unusedSimpArgs false
set_option maxRecDepth 100000
namespace Go.Proofs.YtjdieimefebnfaaGreatDoor
open Go Go.EV
theorem Je(x:Zj)(c:Int)(k:Nat)(h0:0 < k)(hk:k < 32)(h1:U0 .u64 (Z1 c) 31=((32 - k:Nat):Int)):Qz (Xb (iv x) c) (λr=>r=iv (x.rotateRight k)):=by
 have e2:Z1 ((32:Int) - ((32 - k:Nat):Int))=(k:Int):=by show IntKind.u64.wrap _=_;rw[IntKind.wrap_u64];omega
 refine Ok.k (by rw[h1];simp) (Ok.k (by grind) (Ok.d ?_))
 grind [sQ,Zn,M3,iv,U0,Z1,Z4]
theorem ZE{n:Int}(h0:0<=n)(h:n < 64):(bif decide (0<=n)&&decide (n < ((64:Nat):Int)) then some () else none)=some ():=by
 grind
theorem Nj{l:List Int}(h:l.length=64){n:Int}(h0:0<=n)(h1:n < 64):∃x,l[0+n.toNat]?=some x:=⟨l[0+n.toNat]'(by omega),(by grind)⟩
theorem HL:J0.length=64:=by kernel_rfl
def KB:List Zj:=J0.map (BitVec.ofInt 32)
theorem gU:J0.take 64=KB.map iv:=by kernel_rfl
def w8(v:V8):W8:=(iv v.a,iv v.b,iv v.c,iv v.d,iv v.e,iv v.f,iv v.g,iv v.h)
def l8(v:V8):List Int:=[iv v.a,iv v.b,iv v.c,iv v.d,iv v.e,iv v.f,iv v.g,iv v.h]
def bw(s:za)(k:Nat):Zj:=BitVec.ofNat 32 (num (Q3 (s.extract (4 * k) (4 * k+4)))).toNat
theorem Qzd{x:za}(hx:x.size=4):∃c0 c1 c2 c3:Nat,(c0 < 256/\c1 < 256/\c2 < 256/\c3 < 256)/\Q3 x=[(c0:Int),(c1:Int),(c2:Int),(c3:Int)]/\QZ x 0=(c0:Int)/\QZ x 1=(c1:Int)/\QZ x 2=(c2:Int)/\QZ x 3=(c3:Int):=by
 have hl:x.data.toList.length=4:=hx
 match h:x.data.toList,hl with
 | [a,b,c,d],_=>
  have hd:x.data=#[a,b,c,d]:=by grind
  refine⟨a.toNat,b.toNat,c.toNat,d.toNat,⟨a.toNat_lt,b.toNat_lt,c.toNat_lt,d.toNat_lt⟩,by grind [Q3],?_,?_,?_,?_⟩<;>(simp_all [QZ])
theorem eJ{x:za}(hx:x.size=4):Zn .u32 (Zn .u32 (Zn .u32 (M3 .u32 (I6 (QZ x 0)) 24) (M3 .u32 (I6 (QZ x 1)) 16)) (M3 .u32 (I6 (QZ x 2)) 8)) (I6 (QZ x 3))=iv (BitVec.ofNat 32 (num (Q3 x)).toNat):=by
 obtain⟨c0,c1,c2,c3,⟨h0,h1,h2,h3⟩,e,e0,e1,e2,e3⟩:=Qzd hx
 have w:∀c:Nat,c < 256->I6 (c:Int)=iv (BitVec.ofNat 32 c):=λc hc=>by
  rw[ivN];show IntKind.u32.wrap _=_;rw[Se]
 have en:(num (Q3 x)).toNat=((c0 * 256+c1) * 256+c2) * 256+c3:=by
  grind [num]
 rw[e0,e1,e2,e3,w c0 h0,w c1 h1,w c2 h2,w c3 h3,en,show (24:Int)=((24:Nat):Int) from rfl,show (16:Int)=((16:Nat):Int) from rfl,show (8:Int)=((8:Nat):Int) from rfl,ON _ 24 (by decide),ON _ 16 (by decide),ON _ 8 (by decide),SM,SM,SM]
 congr 1
 refine BitVec.eq_of_toNat_eq ?_
 simp only[BitVec.toNat_or,BitVec.toNat_shiftLeft,BitVec.toNat_ofNat,Nat.shiftLeft_eq]
 rw[Nat.mod_eq_of_lt (show c0 < 2 ^ 32 by omega),Nat.mod_eq_of_lt (show c1 < 2 ^ 32 by omega),Nat.mod_eq_of_lt (show c2 < 2 ^ 32 by omega),Nat.mod_eq_of_lt (show c3 < 2 ^ 32 by omega),Nat.mod_eq_of_lt (show c0 * 2 ^ 24 < 2 ^ 32 by omega),Nat.mod_eq_of_lt (show c1 * 2 ^ 16 < 2 ^ 32 by omega),Nat.mod_eq_of_lt (show c2 * 2 ^ 8 < 2 ^ 32 by omega),Nat.mod_eq_of_lt (show ((c0 * 256+c1) * 256+c2) * 256+c3 < 2 ^ 32 by omega)]
 have k1:=Nat.two_pow_add_eq_or_of_lt (i:=24) (b:=c1 * 2 ^ 16) (by omega) c0
 have k2:=Nat.two_pow_add_eq_or_of_lt (i:=16) (b:=c2 * 2 ^ 8) (by omega) (c0 * 256+c1)
 have k3:=Nat.two_pow_add_eq_or_of_lt (i:=8) (b:=c3) (by omega) ((c0 * 256+c1) * 256+c2)
 rw[wP c0,<-k1,show 2 ^ 24 * c0+c1 * 2 ^ 16=2 ^ 16 * (c0 * 256+c1) by omega,<-k2,show 2 ^ 16 * (c0 * 256+c1)+c2 * 2 ^ 8=2 ^ 8 * ((c0 * 256+c1) * 256+c2) by omega,<-k3]
 omega
theorem bY(v:V8)(tl:za)(ct:Int)(s rest:za)(hs:s.size=64):Ok (PU (w8 v) tl ct s rest) (λr=>r=w8 (iS KB (bw s) v)):=by
 unfold PU
 refine Ok.o rfl (Ok.b (R:=λe=>e.length=64/\e.take 64=(K6 (bw s) 64).map iv) ?_ λe he=>?_)
 ·refine Ok.s 64 (by decide) (λk y=>y.1.length=64/\y.1.take k=(K6 (bw s) k).map iv/\y.2=(k:Int)) ⟨by simp,rfl,rfl⟩ (λk y hy hk=>?_) λy hy=>?_
  ·obtain⟨l,i⟩:=y
   obtain⟨hl,ht,rfl⟩:l.length=64/\l.take k=(K6 (bw s) k).map iv/\i=(k:Int):=hy
   have fin:∀w:Zj,w=(if k < 16 then bw s k else nxt (K6 (bw s) k) k)->(l.set k (iv w)).length=64/\(l.set k (iv w)).take (k+1)=(K6 (bw s) (k+1)).map iv/\Q0 ((k:Int)+1)=((k+1:Nat):Int):=(by grind [List.length_set,FG,Z8,K6])
   refine Ok.t (by simp;omega) (Ok.e (λhc=>?_) λhc=>?_)
   ·have hc:(k:Int) < 16:=by simpa using hc
    have e1:Q0 ((4:Int) * (k:Int))=((4 * k:Nat):Int):=by grind [Z3]
    have e2:Q0 (((4 * k:Nat):Int)+4)=((4 * k+4:Nat):Int):=by grind [Z3]
    have ez:(s.extract (4 * k) (4 * k+4)).size=4:=by rw[ByteArray.size_extract];omega
    obtain⟨x,hx⟩:=Nj hl (n:=(k:Int)) (by omega) (by omega)
    simp only[e1,e2,zL,ez]
    refine Ok.k ?_ (Ok.k rfl (Ok.k rfl (Ok.k rfl (Ok.k rfl (Ok.o (r:=()) (ZE (by omega) (by omega)) (Ok.r rfl hx (Ok.re (Ok.d ?_))))))))
    ·simp;omega
    ·have:=fin (bw s k) (by rw[if_pos (by omega)])
     simp_all [eJ,zP,iv,bw]
   ·have hc:16<=(k:Int):=by simpa using hc
    have e15:Q0 ((k:Int) - 15)=((k - 15:Nat):Int):=by grind [Z3]
    have e2:Q0 ((k:Int) - 2)=((k - 2:Nat):Int):=by grind [Z3]
    have e16:Q0 ((k:Int) - 16)=((k - 16:Nat):Int):=by grind [Z3]
    have e7:Q0 ((k:Int) - 7)=((k - 7:Nat):Int):=by grind [Z3]
    have look:∀n:Nat,n < k->∃x,l[0+(n:Int).toNat]?=some x/\x=iv (Sa (K6 (bw s) k) n):=(by grind [Nj,Ba])
    obtain⟨x1,hx1,hv1⟩:=look (k - 15) (by omega)
    obtain⟨x2,hx2,hv2⟩:=look (k - 2) (by omega)
    obtain⟨x3,hx3,hv3⟩:=look (k - 16) (by omega)
    obtain⟨x4,hx4,hv4⟩:=look (k - 7) (by omega)
    obtain⟨x5,hx5⟩:=Nj hl (n:=(k:Int)) (by omega) (by omega)
    simp only[e15,e2,e16,e7]
    refine Ok.o (r:=()) (ZE (by omega) (by omega)) (Ok.r rfl hx1 ?_)
    refine Ok.o (r:=()) (ZE (by omega) (by omega)) (Ok.r rfl hx2 ?_)
    refine Ok.o (r:=()) (ZE (by omega) (by omega)) (Ok.r rfl hx3 ?_)
    refine Ok.o (r:=()) (ZE (by omega) (by omega)) (Ok.r rfl hx4 ?_)
    subst hv1;subst hv2;subst hv3;subst hv4
    refine Ok.c (Je _ _ 7 (by decide) (by decide) (by kernel_rfl)) λ_ q1=>Ok.c (Je _ _ 18 (by decide) (by decide) (by kernel_rfl)) λ_ q2=>Ok.c (Je _ _ 17 (by decide) (by decide) (by kernel_rfl)) λ_ q3=>Ok.c (Je _ _ 19 (by decide) (by decide) (by kernel_rfl)) λ_ q4=>?_
    subst q1;subst q2;subst q3;subst q4
    refine Ok.o (r:=()) (ZE (by omega) (by omega)) (Ok.r rfl hx5 (Ok.re (Ok.d ?_)))
    have:=fin (nxt (K6 (bw s) k) k) (by rw[if_neg (by omega)])
    show (l.set (0+(k:Int).toNat) _).length=64/\(l.set (0+(k:Int).toNat) _).take (k+1)=_/\_
    rw[show (3:Int)=((3:Nat):Int) from rfl,show (10:Int)=((10:Nat):Int) from rfl,RQ _ 3 (by decide),RQ _ 10 (by decide)]
    simp only[Ru,Su,zL,zP]
    exact this
  ·obtain⟨l,i⟩:=y
   obtain⟨hl,ht,rfl⟩:l.length=64/\l.take 64=(K6 (bw s) 64).map iv/\i=((64:Nat):Int):=hy
   exact Ok.f rfl (Ok.d ⟨hl,ht⟩)
 ·obtain⟨he,ht⟩:=he
  refine Ok.b (R:=λe2=>e2=w8 (Fc KB (K6 (bw s) 64) v 64)) ?_ λe2 q=>Ok.d ?_
  ·refine Ok.s 64 (by decide) (λk y=>y=(iv (Fc KB (K6 (bw s) 64) v k).a,iv (Fc KB (K6 (bw s) 64) v k).b,iv (Fc KB (K6 (bw s) 64) v k).c,iv (Fc KB (K6 (bw s) 64) v k).d,iv (Fc KB (K6 (bw s) 64) v k).e,iv (Fc KB (K6 (bw s) 64) v k).f,iv (Fc KB (K6 (bw s) 64) v k).g,iv (Fc KB (K6 (bw s) 64) v k).h,(k:Int))) rfl (λk y hy hk=>?_) λy hy=>?_
   ·subst hy
    rw[Fc]
    generalize Fc KB (K6 (bw s) 64) v k=u
    obtain⟨x1,hx1⟩:=Nj HL (n:=(k:Int)) (by omega) (by omega)
    obtain⟨x2,hx2⟩:=Nj he (n:=(k:Int)) (by omega) (by omega)
    obtain rfl:=Ba gU hk (by simpa using hx1)
    obtain rfl:=Ba ht hk (by simpa using hx2)
    refine Ok.t (by grind) ?_
    refine Ok.c (Je u.e _ 6 (by decide) (by decide) (by kernel_rfl)) λ_ q1=>Ok.c (Je u.e _ 11 (by decide) (by decide) (by kernel_rfl)) λ_ q2=>Ok.c (Je u.e _ 25 (by decide) (by decide) (by kernel_rfl)) λ_ q3=>?_
    refine Ok.o (r:=()) (ZE (n:=(k:Int)) (by omega) (by omega)) (Ok.r rfl hx1 ?_)
    refine Ok.o (r:=()) (ZE (n:=(k:Int)) (by omega) (by omega)) (Ok.r rfl hx2 ?_)
    refine Ok.c (Je u.a _ 2 (by decide) (by decide) (by kernel_rfl)) λ_ q4=>Ok.c (Je u.a _ 13 (by decide) (by decide) (by kernel_rfl)) λ_ q5=>Ok.c (Je u.a _ 22 (by decide) (by decide) (by kernel_rfl)) λ_ q6=>Ok.d ?_
    subst q1;subst q2;subst q3;subst q4;subst q5;subst q6
    show (_,_)=_
    simp only[bA,Ru,vC,Su]
    rw[Z8 hk (by decide)]
    rfl
   ·subst hy
    exact Ok.f rfl (Ok.d rfl)
  ·subst q
   show (_,_)=_
   simp only[w8,Su]
   rfl
theorem MY(s:za)(a b c d:Nat):(s.extract a b).extract c d=s.extract (a+c) (min (a+d) b):=by
 ext1;simp
theorem vJ{s:za}{a b c d:Nat}(h1:a=c)(h2:b=d):s.extract a b=s.extract c d:=by rw[h1,h2]
def UG(s:za)(v:V8):Nat->V8
 | 0=>v
 | n+1=>iS KB (bw (s.extract (64 * n) (64 * n+64))) (UG s v n)
def X5(s:za)(v:V8):V8:=UG s v (s.size / 64)
theorem Ae{s t:za}{v:V8}:∀n,(∀i,i < n->s.extract (64 * i) (64 * i+64)=t.extract (64 * i) (64 * i+64))->UG s v n=UG t v n
 | 0,_=>rfl
 | n+1,h=>by rw[UG,UG,h n (by omega),Ae n λi hi=>h i (by omega)]
theorem GO(s:za)(v:V8)(n:Nat):∀p,64 * (n+p)<=s.size->UG s v (n+p)=UG (s.extract (64 * n) s.size) (UG s v n) p
 | 0,_=>rfl
 | p+1,h=>by
  rw[<-Nat.add_assoc,UG,UG,GO s v n p (by omega),MY,show 64 * n+64 * p=64 * (n+p) by omega,show min (64 * n+(64 * p+64)) s.size=64 * (n+p)+64 by omega]
theorem GI{m s t:za}{v:V8}(ht:t=m.extract (64 * (m.size / 64)) m.size):X5 (t++s) (X5 m v)=X5 (m++s) v:=by
 have hz:t.size=m.size - 64 * (m.size / 64):=by simp_all
 have hm:m=m.extract 0 (64 * (m.size / 64))++t:=by
  grind [ByteArray.extract_append_extract,Nat.min_eq_left,Nat.max_eq_right,ByteArray.extract_zero_size]
 have hn:(m++s).size / 64=m.size / 64+(t++s).size / 64:=by grind
 have e0:(m.extract 0 (64 * (m.size / 64))).size=64 * (m.size / 64):=by grind
 have e1:(m++s).extract (64 * (m.size / 64)) (m++s).size=t++s:=by
  grind [ByteArray.append_assoc,ByteArray.extract_append_eq_right,ByteArray.size_append]
 unfold X5
 rw[hn,GO _ _ _ _ (by rw[<-hn];omega),e1]
 congr 1
 refine Ae _ λi hi=>?_
 have:(m++s).extract 0 m.size=m:=ByteArray.extract_append_eq_left rfl
 grind [MY]
theorem Ps{tl:za}{ct:Int}{x:W8×za}(h:x.2.size < 64):C8 tl ct x=some (.inr x.1):=by
 grind [decide_eq_false,C8]
theorem CU{tl:za}{ct:Int}{x:W8×za}{r:W8}(h:64<=x.2.size)(hr:(PU x.1 tl ct (x.2.extract 0 64) x.2).run=some r):C8 tl ct x=some (.inl (r,x.2.extract 64 x.2.size)):=by
 grind [decide_eq_true,C8]
theorem aG(v:V8)(tl:za)(ct:Int)(s:za)(hs:s.size<=1000000):CH (w8 v) tl ct s=some (w8 (X5 s v)):=by
 have step:∀x:W8×za,(∃k,64 * k<=s.size/\x.1=w8 (UG s v k)/\x.2=s.extract (64 * k) s.size)->∃r,C8 tl ct x=some r/\(match r with|.inl y=>(∃k,64 * k<=s.size/\y.1=w8 (UG s v k)/\y.2=s.extract (64 * k) s.size)/\y.2.size < x.2.size|.inr e=>e=w8 (X5 s v)):=by
  rintro x ⟨k,hk,hx1,hx2⟩
  have hz:x.2.size=s.size - 64 * k:=by simp_all
  rcases wH x.2.size 64 with hlt|hge
  ·refine⟨.inr x.1,Ps hlt,?_⟩
   grind [X5]
  ·obtain⟨r,h1,h2⟩:=bY (UG s v k) tl ct (x.2.extract 0 64) x.2 (by rw[ByteArray.size_extract];omega)
   rw[<-hx1] at h1
   have e:x.2.extract 0 64=s.extract (64 * k) (64 * k+64):=by grind [MY]
   have e2:x.2.extract 64 x.2.size=s.extract (64 * (k+1)) s.size:=by rw[hz,hx2,MY];congr 1;omega
   refine⟨.inl (r,x.2.extract 64 x.2.size),CU hge h1,⟨k+1,by omega,?_,e2⟩,?_⟩
   ·grind [UG]
   grind [ByteArray.size_extract]
 obtain⟨e,h,h2⟩:=Ag (f:=C8 tl ct) (λx=>∃k,64 * k<=s.size/\x.1=w8 (UG s v k)/\x.2=s.extract (64 * k) s.size) (λx=>x.2.size) (λe=>e=w8 (X5 s v)) (λx hx=>by obtain⟨r,h1,h2⟩:=step x hx;grind) ZN (w8 v,s) ⟨0,Nat.zero_le _,rfl,by simp_all⟩ (I1 (by grind))
 grind [CH]
attribute [irreducible] X5
attribute [local irreducible] CH
theorem yU(s:za)(v:V8)(tl:za)(ct:Int)(hs:s.size<=1000000):Qz (OT s ⟨⟨⟨iv v.a,iv v.b,iv v.c,iv v.d,iv v.e,iv v.f,iv v.g,iv v.h⟩,tl,ct⟩⟩) (λr=>r=w8 (X5 s v)):=by
 unfold OT
 show Ok (jF s _) _
 refine Ok.o rfl (Ok.c (R:=λ_=>True) ⟨(),rfl,trivial⟩ λ_ _=>Ok.g (Ok.AB (r:=w8 (X5 s v)) ?_ (Ok.d ?_)))
 ·exact aG v tl ct s hs
 grind
def Nz(m:za)(v0:V8):Jn:=⟨⟨⟨iv (X5 m v0).a,iv (X5 m v0).b,iv (X5 m v0).c,iv (X5 m v0).d,iv (X5 m v0).e,iv (X5 m v0).f,iv (X5 m v0).g,iv (X5 m v0).h⟩,m.extract (64 * (m.size / 64)) m.size,(m.size:Nat)⟩⟩
theorem bU(s m:za)(v0:V8)(hs:s.size+m.size<=500000):Qz (rZ s (Nz m v0)) (λr=>r=(iv (X5 (m++s) v0).a,iv (X5 (m++s) v0).b,iv (X5 (m++s) v0).c,iv (X5 (m++s) v0).d,iv (X5 (m++s) v0).e,iv (X5 (m++s) v0).f,iv (X5 (m++s) v0).g,iv (X5 (m++s) v0).h,(m++s).extract (64 * ((m++s).size / 64)) (m++s).size,(((m++s).size:Nat):Int))):=by
 unfold rZ
 show Ok (tK s (Nz m v0)) _
 have ht:(m.extract (64 * (m.size / 64)) m.size).size=m.size - 64 * (m.size / 64):=by simp_all
 have hz:(m.extract (64 * (m.size / 64)) m.size++s).size=m.size - 64 * (m.size / 64)+s.size:=by grind
 have hc:=GI (m:=m) (s:=s) (v:=v0) rfl
 have hm:m.extract 0 (64 * (m.size / 64))++m.extract (64 * (m.size / 64)) m.size=m:=by
  grind [ByteArray.extract_append_extract,Nat.min_eq_left,Nat.max_eq_right,ByteArray.extract_zero_size]
 have hx:(m.extract (64 * (m.size / 64)) m.size++s).extract (64 * ((m.extract (64 * (m.size / 64)) m.size++s).size / 64)) (m.extract (64 * (m.size / 64)) m.size++s).size=(m++s).extract (64 * ((m++s).size / 64)) (m++s).size:=by
  have e0:(m.extract 0 (64 * (m.size / 64))).size=64 * (m.size / 64):=by grind
  have hw:(m++s).extract (64 * (m.size / 64)) (m++s).size=m.extract (64 * (m.size / 64)) m.size++s:=by
   grind [ByteArray.append_assoc,ByteArray.extract_append_eq_right,ByteArray.size_append]
  grind [MY,vJ,ByteArray.size_append]
 generalize hT:m.extract (64 * (m.size / 64)) m.size=t at ht hz hc hx
 have e1:Int.tdiv ((t++s).size:Int) 64=(((t++s).size / 64:Nat):Int):=by grind
 have e2:Q0 ((Q0 (Int.tdiv ((t++s).size:Int) 64)) * 64)=((64 * ((t++s).size / 64):Nat):Int):=by
  grind [Z3]
 unfold Nz tK
 simp only[hT]
 refine Ok.o rfl (Ok.k (by grind) (Ok.o rfl (Ok.c (yU (t++s) (X5 m v0) t _ (by omega)) λr hr=>Ok.k ?_ ?_)))
 ·rw[e2];simp;omega
 ·rw[hc] at hr
  subst hr
  refine Ok.c (R:=λr=>r=(t++s).extract (64 * ((t++s).size / 64)) (t++s).size) ?_ λr hr=>Ok.d ?_
  ·rw[e2,zL]
   exact Ok.c (R:=λ_=>True) (show Ok (jC _) _ from Ok.k (by rw[ByteArray.size_extract];grind) (Ok.d trivial)) λ_ _=>Ok.d rfl
  ·subst hr
   rw[hx]
   show (_,_,_,_,_,_,_,_,_,Q0 (((m.size:Nat):Int)+(s.size:Int)))=_
   rw[Z3 (by omega) (by omega),ByteArray.size_append]
   generalize X5 (m++s) v0=u
   rfl
def pad(n:Nat):za:=bs [128]++(strOfNums (List.replicate ((119 - n % 64) % 64) 0)++strOfNums (YJ 8 (8 * (n:Int))))
def Cn(v:V8):za:=strOfNums ((l8 v).flatMap (YJ 4))
def Ip(m:za)(v:V8):za:=Cn (X5 (m++pad m.size) v)
theorem Gg(n:Nat):(pad n).size=9+(119 - n % 64) % 64:=by
 unfold pad
 rw[ByteArray.size_append,ByteArray.size_append,strOfNums_size,strOfNums_size,wX,UQ]
 show 1+_=_
 omega
theorem Cg(v:V8):(Cn v).size=32:=by
 unfold Cn l8
 rw[strOfNums_size]
 simp[List.flatMap_cons,UQ]
theorem T6(m:za)(v:V8):(Ip m v).size=32:=Cg _
theorem kH(v:Int)(k:Nat)(h:k<=64):Z4 .u64 v (k:Int)=v / 2 ^ k:=by
 show v.fdiv (2 ^ (min (k:Int).toNat 64))=_
 rw[zL,Nat.min_eq_left h,Int.fdiv_eq_ediv_of_nonneg _ (Int.pow_nonneg (by decide))]
theorem kU(v:Int)(k:Nat)(h:k<=32):Z4 .u32 v (k:Int)=v / 2 ^ k:=by
 show v.fdiv (2 ^ (min (k:Int).toNat 32))=_
 rw[zL,Nat.min_eq_left h,Int.fdiv_eq_ediv_of_nonneg _ (Int.pow_nonneg (by decide))]
theorem vN{n:Nat}(h:n<=1000000):((((((([Qm (Z4 .u64 (Z1 ((Z1 (n:Int)) * 8)) 56)]++[Qm (Z4 .u64 (Z1 ((Z1 (n:Int)) * 8)) 48)])++[Qm (Z4 .u64 (Z1 ((Z1 (n:Int)) * 8)) 40)])++[Qm (Z4 .u64 (Z1 ((Z1 (n:Int)) * 8)) 32)])++[Qm (Z4 .u64 (Z1 ((Z1 (n:Int)) * 8)) 24)])++[Qm (Z4 .u64 (Z1 ((Z1 (n:Int)) * 8)) 16)])++[Qm (Z4 .u64 (Z1 ((Z1 (n:Int)) * 8)) 8)])++[Qm (Z4 .u64 (Z1 ((Z1 (n:Int)) * 8)) 0)])=YJ 8 (8 * (n:Int)):=by
 have e1:Z1 (n:Int)=n:=by show IntKind.u64.wrap _=_;rw[IntKind.wrap_u64];omega
 have e2:Z1 ((n:Int) * 8)=8 * (n:Int):=by show IntKind.u64.wrap _=_;rw[IntKind.wrap_u64];omega
 rw[e1,e2]
 have f:∀k:Nat,k<=64->Qm (Z4 .u64 (8 * (n:Int)) (k:Int))=(8 * (n:Int)) / 2 ^ k % 256:=λk hk=>by rw[kH _ _ hk,N3]
 have g56:Qm (Z4 .u64 (8 * (n:Int)) 56)=_:=f 56 (by decide)
 have g48:Qm (Z4 .u64 (8 * (n:Int)) 48)=_:=f 48 (by decide)
 have g40:Qm (Z4 .u64 (8 * (n:Int)) 40)=_:=f 40 (by decide)
 have g32:Qm (Z4 .u64 (8 * (n:Int)) 32)=_:=f 32 (by decide)
 have g24:Qm (Z4 .u64 (8 * (n:Int)) 24)=_:=f 24 (by decide)
 have g16:Qm (Z4 .u64 (8 * (n:Int)) 16)=_:=f 16 (by decide)
 have g8:Qm (Z4 .u64 (8 * (n:Int)) 8)=_:=f 8 (by decide)
 have g0:Qm (Z4 .u64 (8 * (n:Int)) 0)=_:=f 0 (by decide)
 rw[g56,g48,g40,g32,g24,g16,g8,g0]
 simp only[YJ,List.nil_append,List.cons_append,List.cons.injEq,and_true]
 omega
theorem vR(w:Zj):[Qm (Z4 .u32 (iv w) 24),Qm (Z4 .u32 (iv w) 16),Qm (Z4 .u32 (iv w) 8),Qm (iv w)]=YJ 4 (iv w):=by
 have h:=V4 w
 have f:∀k:Nat,k<=32->Qm (Z4 .u32 (iv w) (k:Int))=(iv w) / 2 ^ k % 256:=λk hk=>by rw[kU _ _ hk,N3]
 have g24:Qm (Z4 .u32 (iv w) 24)=_:=f 24 (by decide)
 have g16:Qm (Z4 .u32 (iv w) 16)=_:=f 16 (by decide)
 have g8:Qm (Z4 .u32 (iv w) 8)=_:=f 8 (by decide)
 rw[g24,g16,g8,N3]
 simp only[YJ,List.nil_append,List.cons_append,List.cons.injEq,and_true]
 omega
theorem bJ(m:za)(v0:V8)(hm:m.size<=500000):Qz (rQ (Nz m v0)) (λr=>r=Ip m v0):=by
 unfold rQ
 refine Qz.fn ?_
 have ht:(m.extract (64 * (m.size / 64)) m.size).size=m.size % 64:=by rw[ByteArray.size_extract];omega
 have hz:(m.extract (64 * (m.size / 64)) m.size++pad m.size).size<=200:=by rw[ByteArray.size_append,ht,Gg];omega
 have hc:=GI (m:=m) (s:=pad m.size) (v:=v0) rfl
 have hp:pad m.size=pad m.size:=rfl
 conv at hp=>rhs;unfold pad
 unfold Nz Qj5
 dsimp only
 generalize m.extract (64 * (m.size / 64)) m.size=t at ht hz hc ⊢
 generalize X5 m v0=u0 at hc ⊢
 have e1:Int.tmod (Q0 ((119:Int) - (t.size:Int))) 64=(((119 - m.size % 64) % 64:Nat):Int):=by
  rw[ht,Z3 (by omega) (by omega),Int.tmod_eq_emod_of_nonneg (by omega)];omega
 have hq:(119 - m.size % 64) % 64 < 64:=by omega
 have z1:(bs [128]).size=1:=rfl
 refine Ok.o rfl (Ok.k (by rw[z1];simp;omega) (Ok.o (r:=()) ?_ (Ok.o rfl ?_)))
 ·show (bif decide (0<=(Int.tmod (Q0 ((119:Int) - (t.size:Int))) 64))&&decide ((Int.tmod (Q0 ((119:Int) - (t.size:Int))) 64)<=(Int.tmod (Q0 ((119:Int) - (t.size:Int))) 64))&&decide (1 * (Int.tmod (Q0 ((119:Int) - (t.size:Int))) 64).toNat<=281474976710656)&&decide ((Int.tmod (Q0 ((119:Int) - (t.size:Int))) 64)<=9223372036854775807) then some () else none)=some ()
  rw[e1,zR (by omega),zR (by omega),zR (by omega),zR (by omega)];rfl
 rw[e1,zL]
 generalize (119 - m.size % 64) % 64=q at hp hq ⊢
 have zq:(strOfNums (List.replicate q (0:Int))).size=q:=by rw[strOfNums_size,wX]
 have zz:∀{a:za} {n:Nat} {x:Int},a.size<=n->n<=1000->decide (a.size+(strOfNums [x]).size<=9223372036854775807)=true:=λh1 h2=>by rw[strOfNums_size];simp;omega
 have z2:(t++bs [128]).size<=64:=by rw[ByteArray.size_append,z1];omega
 refine Ok.k (by rw[zq];simp only[zC];omega) ?_
 have z3:((t++bs [128])++(strOfNums (List.replicate q (0:Int)))).size<=128:=by rw[ByteArray.size_append,zq];omega
 have hT:((t++bs [128])++(strOfNums (List.replicate q (0:Int))))++strOfNums (YJ 8 (8 * (m.size:Int)))=t++pad m.size:=by rw[hp,ByteArray.append_assoc,ByteArray.append_assoc]
 generalize (t++bs [128])++(strOfNums (List.replicate q (0:Int)))=a at z3 hT ⊢
 rw[<-vN (by omega)] at hT
 simp only[S6,<-ByteArray.append_assoc] at hT
 have up:∀{a:za} {n:Nat} (x:Int),a.size<=n->(a++strOfNums [x]).size<=n+1:=λx h=>by rw[ByteArray.size_append,strOfNums_size];simpa using h
 have y1:=up (Qm (Z4 .u64 (Z1 ((Z1 (m.size:Int)) * 8)) 56)) z3
 have y2:=up (Qm (Z4 .u64 (Z1 ((Z1 (m.size:Int)) * 8)) 48)) y1
 have y3:=up (Qm (Z4 .u64 (Z1 ((Z1 (m.size:Int)) * 8)) 40)) y2
 have y4:=up (Qm (Z4 .u64 (Z1 ((Z1 (m.size:Int)) * 8)) 32)) y3
 have y5:=up (Qm (Z4 .u64 (Z1 ((Z1 (m.size:Int)) * 8)) 24)) y4
 have y6:=up (Qm (Z4 .u64 (Z1 ((Z1 (m.size:Int)) * 8)) 16)) y5
 have y7:=up (Qm (Z4 .u64 (Z1 ((Z1 (m.size:Int)) * 8)) 8)) y6
 refine Ok.k (zz z3 (by decide)) (Ok.g (Ok.k (zz y1 (by decide)) (Ok.g (Ok.k (zz y2 (by decide)) (Ok.g (Ok.k (zz y3 (by decide)) (Ok.g (Ok.k (zz y4 (by decide)) (Ok.g (Ok.k (zz y5 (by decide)) (Ok.g (Ok.k (zz y6 (by decide)) (Ok.g (Ok.k (zz y7 (by decide)) (Ok.o rfl ?_)))))))))))))))
 rw[hT]
 refine Ok.c (yU (t++pad m.size) u0 t _ (by omega)) λr hr=>?_
 rw[hc] at hr
 subst hr
 unfold Ip Cn
 generalize X5 (m++pad m.size) v0=u
 refine Ok.g (Ok.b (R:=λe=>e=(l8 u).flatMap (YJ 4)) ?_ λe he=>Ok.o rfl (Ok.d (by rw[he])))
 refine Ok.s 8 (by decide) (λk y=>y.1=((l8 u).take k).flatMap (YJ 4)/\y.2=(k:Int)) ⟨rfl,rfl⟩ (λk y hy hk=>?_) λy hy=>?_
 ·obtain⟨l,i⟩:=y
  obtain⟨hl,rfl⟩:l=((l8 u).take k).flatMap (YJ 4)/\i=(k:Int):=hy
  have hlen:l.length=4 * k:=by
   rw[hl,List.length_flatMap]
   simp only[UQ,List.map_const',List.sum_replicate_nat,wN,l8,wK,List.length_nil]
   omega
  refine Ok.t (by simp;omega) ?_
  have fin:∀w:Zj,(l8 u)[k]?=some (iv w)->(l++[Qm (Z4 .u32 (iv w) 24),Qm (Z4 .u32 (iv w) 16),Qm (Z4 .u32 (iv w) 8),Qm (iv w)])=((l8 u).take (k+1)).flatMap (YJ 4)/\Q0 ((k:Int)+1)=((k+1:Nat):Int):=λw hw=>⟨by
   rw[vR,hl,List.take_add_one,hw,List.flatMap_append];simp,Z8 hk (by decide)⟩
  have sz:∀(x:List Int),x.length=4->(l.length+x.length) * 1<=140737488355328:=λx hx=>by rw[hlen,hx];omega
  have:k=0\/k=1\/k=2\/k=3\/k=4\/k=5\/k=6\/k=7:=by omega
  rcases this with rfl|rfl|rfl|rfl|rfl|rfl|rfl|rfl
  ·exact Ok.Yi rfl (Ok.app (sz _ rfl) (Ok.g (Ok.g (Ok.d (fin u.a rfl)))))
  ·exact Ok.Yi rfl (Ok.app (sz _ rfl) (Ok.g (Ok.g (Ok.d (fin u.b rfl)))))
  ·exact Ok.Yi rfl (Ok.app (sz _ rfl) (Ok.g (Ok.g (Ok.d (fin u.c rfl)))))
  ·exact Ok.Yi rfl (Ok.app (sz _ rfl) (Ok.g (Ok.g (Ok.d (fin u.d rfl)))))
  ·exact Ok.Yi rfl (Ok.app (sz _ rfl) (Ok.g (Ok.g (Ok.d (fin u.e rfl)))))
  ·exact Ok.Yi rfl (Ok.app (sz _ rfl) (Ok.g (Ok.g (Ok.d (fin u.f rfl)))))
  ·exact Ok.Yi rfl (Ok.app (sz _ rfl) (Ok.g (Ok.g (Ok.d (fin u.g rfl)))))
  ·exact Ok.Yi rfl (Ok.app (sz _ rfl) (Ok.g (Ok.g (Ok.d (fin u.h rfl)))))
 ·obtain⟨l,i⟩:=y
  obtain⟨hl,rfl⟩:l=((l8 u).take 8).flatMap (YJ 4)/\i=((8:Nat):Int):=hy
  exact Ok.f rfl (Ok.d hl)
def cat:List za->za
 | []=>zd
 | x :: l=>x++cat l
theorem Bc(l k:List za):cat (l++k)=cat l++cat k:=by
 induction l with
 | nil=>simp[cat]
 | cons x l ih=>rw[List.cons_append,cat,cat,ih,ByteArray.append_assoc]
theorem ME(x:za):cat [x]=x:=by simp[cat]
theorem Ns{l:List za}(h:∀s,s∈l->s.size<=100000):(cat l).size<=100000 * l.length:=by
 induction l with
 | nil=>simp[cat]
 | cons x l ih=>
  grind [List.mem_cons_of_mem,List.mem_cons_self,ByteArray.size_append,List.length_cons,cat]
theorem yS(v:V8):X5 zd v=v:=by unfold X5;rfl
abbrev S10:=Int×Int×Int×Int×Int×Int×Int×Int×za×Int
def E6(m:za)(v0:V8):S10:=(iv (X5 m v0).a,iv (X5 m v0).b,iv (X5 m v0).c,iv (X5 m v0).d,iv (X5 m v0).e,iv (X5 m v0).f,iv (X5 m v0).g,iv (X5 m v0).h,m.extract (64 * (m.size / 64)) m.size,((m.size:Nat):Int))
theorem Lb(v0:V8)(l:List za)(hl:l.length<=4)(hs:∀s,s∈l->s.size<=100000):Qz (Cw (iv v0.a) (iv v0.b) (iv v0.c) (iv v0.d) (iv v0.e) (iv v0.f) (iv v0.g) (iv v0.h) l) (λr=>r=Ip (cat l) v0):=by
 unfold Cw
 refine Qz.fn ?_
 unfold Qu0
 have hc:=Ns hs
 refine Ok.b (R:=λe=>e=E6 (cat l) v0) ?_ λe he=>?_
 ·refine Ok.s l.length (by omega) (λk y=>y=((E6 (cat (l.take k)) v0).1,(E6 (cat (l.take k)) v0).2.1,(E6 (cat (l.take k)) v0).2.2.1,(E6 (cat (l.take k)) v0).2.2.2.1,(E6 (cat (l.take k)) v0).q.1,(E6 (cat (l.take k)) v0).q.2.1,(E6 (cat (l.take k)) v0).q.2.2.1,(E6 (cat (l.take k)) v0).q.2.2.2.1,(E6 (cat (l.take k)) v0).q.q.1,(E6 (cat (l.take k)) v0).q.q.2,(k:Int))) ?_ (λk y hy hk=>?_) λy hy=>?_
  ·simp_all [List.take_zero,yS,E6,cat]
  ·subst hy
   obtain⟨x,hx,hx'⟩:=E1 (l:=l) (k:=k) hk
   have hm:cat (l.take (k+1))=cat (l.take k)++x:=by rw[List.take_add_one,hx',Bc];simp[cat]
   have hz:=Ns (l:=l.take k) λs h=>hs s (List.mem_of_mem_take h)
   have hx2:=hs x (zQ hx')
   rw[wN] at hz
   rw[hm]
   generalize cat (l.take k)=m at hz ⊢
   refine Ok.t (by grind [YN]) (Ok.r (by simp) hx (Ok.c (show Qz _ _ from bU x m v0 (by omega)) λr hr=>Ok.d ?_))
   grind [Z8,E6,Q0]
  grind [Ok.f,YN,Ok.d,List.take_length]
 ·subst he
  exact Ok.c (show Qz _ _ from bJ (cat l) v0 (by omega)) λr hr=>Ok.d hr
def xk(c:Int)(s:za):za:=strOfNums ((G2 (List.replicate 64 (0:Int)) 0 (Q3 s)).map λx=>O2 .u8 x c)
theorem map_set{f:Int->Int}{L:List Int}{k:Nat}{x:Int}(h:L[k]?=some x):((L.take k).map f++L.drop k).set (0+k) (f x)=(L.take (k+1)).map f++L.drop (k+1):=by
 have hk:k < L.length:=(by grind)
 have hx:L[k]=x:=(by grind)
 rw[zP,List.drop_eq_getElem_cons hk,List.take_add_one,h,hx,List.set_append_right _ _ (by simp;omega)]
 simp[Nat.min_eq_left (Nat.le_of_lt hk)]
theorem Bw{f:Int->Int}{L:List Int}{k:Nat}{x:Int}(h:L[k]?=some x):((L.take k).map f++L.drop k)[0+k]?=some x:=by
 grind
theorem LA(s:za)(hs:s.size<=64):(G2 (List.replicate 64 (0:Int)) 0 (Q3 s)).length=64:=by
 grind [EP,J3,List.length_replicate]
theorem DE(c:Int)(s:za)(hs:s.size<=64):(xk c s).size=64:=by
 grind [strOfNums_size,List.length_map,LA,xk]
theorem SN(c:Int)(s:za)(hs:s.size<=64):Qz (dJ c s) (λr=>r=xk c s):=by
 unfold dJ
 refine Qz.fn ?_
 unfold Qj6 xk
 have hL:=LA s hs
 generalize G2 (List.replicate 64 (0:Int)) 0 (Q3 s)=L at hL ⊢
 refine Ok.o rfl (Ok.o (r:=()) ?_ (Ok.b (R:=λe=>e=L.map λx=>O2 .u8 x c) ?_ λe he=>Ok.fact (by grind) (Ok.o rfl (Ok.d (by rw[he])))))
 ·show (bif decide (s.size<=64)&&decide (0 < 64) then some () else none)=some ()
  grind
 ·refine Ok.s 64 (by decide) (λk y=>y=((L.take k).map (λx=>O2 .u8 x c)++L.drop k,(k:Int))) rfl (λk y hy hk=>?_) λy hy=>?_
  ·subst hy
   obtain⟨x,hx,hx'⟩:=E1 (l:=L) (k:=k) (by omega)
   have hg:=Bw (f:=λx=>O2 .u8 x c) hx'
   refine Ok.t (by simp;omega) (Ok.k (by simp;omega) (Ok.r rfl hg (Ok.k (by simp;omega) (Ok.r rfl hg (Ok.re (Ok.d ?_))))))
   grind [Z8,map_set,List.set,Q0,O2]
  ·subst hy
   refine Ok.f rfl (Ok.d ?_)
   grind
def C2(key:za)(v0:V8):za:=if 64 < key.size then Ip key v0 else key
theorem Af(key:za)(v0:V8):(C2 key v0).size<=64:=by
 grind [T6,C2]
def Ax(v0:V8)(key s:za):za:=Ip (xk 92 (C2 key v0)++Ip (xk 54 (C2 key v0)++s) v0) v0
theorem C9(v0:V8)(key s:za):(Ax v0 key s).size=32:=T6 _ _
theorem Lc(v0:V8)(key:za)(l:List za)(hk:key.size<=100000)(hl:l.length<=3)(hs:∀s,s∈l->s.size<=100000):Qz (RX (iv v0.a) (iv v0.b) (iv v0.c) (iv v0.d) (iv v0.e) (iv v0.f) (iv v0.g) (iv v0.h) key l) (λr=>r=Ax v0 key (cat l)):=by
 unfold RX
 refine Qz.fn ?_
 unfold Qu1 Ax
 have hz:=Af key v0
 refine Ok.b (R:=λx=>x=C2 key v0) ?_ λx he=>?_
 ·refine Ok.e (λhc=>Ok.v (Lb v0 [key] (show 1<=4 by decide) (by simpa using hk)) λr hr=>Ok.d ?_) λhc=>Ok.d ?_
  ·have hc:(64:Int) < (key.size:Int):=by simpa using hc
   have hc:64 < key.size:=by omega
   rw[hr,C2,if_pos hc,ME]
  ·have hc:¬(64:Int) < (key.size:Int):=by simpa using hc
   have hc:¬64 < key.size:=by omega
   rw[C2,if_neg hc]
 ·subst he
  have z1:=DE 92 (C2 key v0) hz
  have z2:=DE 54 (C2 key v0) hz
  refine Ok.v (SN 92 _ hz) λr1 h1=>Ok.v (SN 54 _ hz) λr2 h2=>Ok.app (by grind) ?_
  subst h1 h2
  refine Ok.v (Lb v0 ([xk 54 (C2 key v0)]++l) (by rw[wD,List.length_singleton];omega) (λs h=>?_)) λr3 h3=>?_
  ·grind
  have e3:r3=Ip (xk 54 (C2 key v0)++cat l) v0:=by rw[h3,Bc,ME]
  refine Ok.v (Lb v0 [xk 92 (C2 key v0),r3] (show 2<=4 by decide) (by rw[e3];simp[T6];omega)) λr4 h4=>Ok.d ?_
  simp_all [cat]
theorem aQ(v0:V8)(key s:za)(hk:key.size<=100000)(hs:s.size<=100000):Qz (RX (iv v0.a) (iv v0.b) (iv v0.c) (iv v0.d) (iv v0.e) (iv v0.f) (iv v0.g) (iv v0.h) key [s]) (λr=>r=Ax v0 key s):=by
 grind [Lc,ME]
def vS:V8:=⟨1779033703,3144134277,1013904242,2773480762,1359893119,2600822924,528734635,1541459225⟩
def N7(key s:za):za:=Ax vS key s
theorem aS(key s:za)(hk:key.size<=100000)(hs:s.size<=100000):(RX 1779033703 3144134277 1013904242 2773480762 1359893119 2600822924 528734635 1541459225 key [s]).o=some (N7 key s)/\(N7 key s).size=32:=by
 obtain⟨r,h1,h2⟩:=aQ vS key s hk hs
 subst h2
 exact⟨h1,C9 _ _ _⟩
theorem XB(l:List za)(hn:l.length<=10)(hl:∀s,s∈l->s.size<=4096):Qz (Ck l) (λr=>r=false):=by
 unfold Ck
 show Ok (Qu3 l) _
 refine Ok.p (R:=λe=>e=.inr ()) ?_ (λe he=>by cases he) (λe he=>Ok.d rfl)
 refine Ok.s l.length (by omega) (λk y=>y=(k:Int)) rfl (λk y hy hk=>?_) λy hy=>?_
 ·subst hy
  refine Ok.t (by grind [YN]) ?_
  obtain⟨x,hx,hx'⟩:=E1 (l:=l) (k:=k) hk
  grind [List.mem_of_getElem?,Ok.r,Ok.f,Ok.d,Z8]
 ·subst hy
  exact Ok.f (by rw[YN];simp) (Ok.d rfl)
theorem aZ(a b:za)(ha:a.size<=4096)(hb:b.size<=4096):Qz (Ck [a,b]) (λr=>r=false):=
 (by grind [XB])
theorem yH(key s:za)(hk:key.size<=4096)(hs:s.size<=4096):Qz (s96 key s) (λr=>r=(N7 key s,0)):=by
 unfold s96
 show Ok (g96 key s) _
 refine Ok.v (aZ key s hk hs) λr hr=>?_
 subst hr
 refine Ok.f rfl (Ok.c (Qz.o LK) λr hr=>?_)
 subst hr
 exact Ok.v (Qz.o (aS key s (by omega) (by omega)).1) (by grind [Ok.d])
end Go.Proofs.YtjdieimefebnfaaGreatDoor
