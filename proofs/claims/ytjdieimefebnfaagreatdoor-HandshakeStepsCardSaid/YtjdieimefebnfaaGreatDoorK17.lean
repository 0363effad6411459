/- The group of an Edwards curve over a field, and the ladder of steps on it. Conditions: those named. The field of the curve, and its base point; the n ..; no conditions. -/
import Derived.Test.YtjdieimefebnfaaGreatDoorK16
import Derived.Test.YtjdieimefebnfaaGreatDoorK8
import Derived.Test.YtjdieimefebnfaaGreatDoorK7
import Derived.Test.YtjdieimefebnfaaGreatDoorK11
import Derived.Test.YtjdieimefebnfaaGreatDoorK9
import Derived.Test.YtjdieimefebnfaaGreatDoorK15
import Derived.KernelRfl
set_option linter.unusedVariables false
set_option linter.unusedSimpArgs false
set_option maxRecDepth 100000
namespace Crv
end Crv
namespace Crv
instance:NeZero qD:=⟨by decide +kernel⟩
abbrev nP:Nat:=qD
def CA(a:Nat):Nat:=pw nP 256 a (nP - 2) 1 % nP
def force{α:Type}(n:Nat)(k:Nat->α):α:=match n with
 | 0=>k 0
 | m+1=>k (m+1)
theorem force_eq{α:Type}(n:Nat)(k:Nat->α):force n k=k n:=by cases n<;>rfl
def lY(a b:Nat):Nat:=(nP - b+a) % nP
def Td{α:Type}(c a b:Nat)(k:Nat->Nat->α):α:=
 force ((a+b) % nP) λp=>force (lY a b) λm=>force (p * p % nP) λs=>force (m * m % nP) λt=>force (lY s t) λe=>
 force (s * t % nP) λx=>force (e * ((s+e * c % nP) % nP) % nP) λy=>k x y
def Tm{α:Type}(u a b c d:Nat)(k:Nat->Nat->α):α:=
 force ((a+b) % nP) λp=>force (lY a b) λm=>force (lY c d * p % nP) λf=>force ((c+d) % nP * m % nP) λg=>
 force ((f+g) % nP) λh=>force (lY f g) λj=>force (h * h % nP) λx=>force (u * (j * j % nP) % nP) λy=>k x y
def HW(c u:Nat):List Bool->Nat->Nat->Nat->Nat->Nat×Nat
 | [],x,y,_,_=>(x,y)
 | b :: l,x,y,z,w=>bif b then Td c z w λz2 w2=>Tm u z w x y λx2 y2=>HW c u l x2 y2 z2 w2
  else Td c x y λx2 y2=>Tm u x y z w λz2 w2=>HW c u l x2 y2 z2 w2
def bits(n:Nat):Nat->List Bool
 | 0=>[]
 | k+1=>(n / 2 ^ k % 2==1) :: bits n k
end Crv
namespace Go.Proofs.YtjdieimefebnfaaGreatDoor
open Go Go.EV Crv
def v5(a b c d e:Int):Int:=a+2251799813685248 * b+5070602400912917605986812821504 * c+11417981541647679048466287755595961091061972992 * d+25711008708143844408671393477458601640355247900524685364822016 * e
theorem gI(a0 a1 a2 a3 a4 b0 b1 b2 b3 b4:Int):v5 a0 a1 a2 a3 a4 * v5 b0 b1 b2 b3 b4 =
  v5 (a0 * b0+a1 * (19 * b4)+a2 * (19 * b3)+a3 * (19 * b2)+a4 * (19 * b1)) (a0 * b1+a1 * b0+a2 * (19 * b4)+a3 * (19 * b3)+a4 * (19 * b2))
   (a0 * b2+a1 * b1+a2 * b0+a3 * (19 * b4)+a4 * (19 * b3)) (a0 * b3+a1 * b2+a2 * b1+a3 * b0+a4 * (19 * b4)) (a0 * b4+a1 * b3+a2 * b2+a3 * b1+a4 * b0)
 +57896044618658097711785492504343953926634992332820282019728792003956564819949 * v5 (a1 * b4+a2 * b3+a3 * b2+a4 * b1) (a2 * b4+a3 * b3+a4 * b2) (a3 * b4+a4 * b3) (a4 * b4) 0:=by
 unfold v5;grind
theorem vO{a0 a1 a2 a3 a4 c0 c1 c2 c3 c4:Int}(h0:c0=a0 / 2251799813685248)(h1:c1=(a1+c0) / 2251799813685248)(h2:c2=(a2+c1) / 2251799813685248)(h3:c3=(a3+c2) / 2251799813685248)(h4:c4=(a4+c3) / 2251799813685248) :
  v5 (a0 % 2251799813685248+19 * c4) ((a1+c0) % 2251799813685248) ((a2+c1) % 2251799813685248) ((a3+c2) % 2251799813685248) ((a4+c3) % 2251799813685248)=v5 a0 a1 a2 a3 a4 - 57896044618658097711785492504343953926634992332820282019728792003956564819949 * c4:=by
 unfold v5;omega
def md(x:Int):Nat:=(x % 57896044618658097711785492504343953926634992332820282019728792003956564819949).toNat
theorem YR(x:Int):((md x:Nat):Int)=x % 57896044618658097711785492504343953926634992332820282019728792003956564819949:=by unfold md;omega
theorem yV(x:Int):md x < nP:=by have:=YR x;have:(nP:Int)=57896044618658097711785492504343953926634992332820282019728792003956564819949:=rfl;omega
theorem GL{x:Int}{n:Nat}(h:x % 57896044618658097711785492504343953926634992332820282019728792003956564819949=(n:Int) % 57896044618658097711785492504343953926634992332820282019728792003956564819949):md x=n % nP:=by
 have:=YR x
 have e:((n % nP:Nat):Int)=(n:Int) % 57896044618658097711785492504343953926634992332820282019728792003956564819949:=by rw[Int.natCast_emod];rfl
 omega
theorem Ad(x c:Int):md (x - 57896044618658097711785492504343953926634992332820282019728792003956564819949 * c)=md x:=by unfold md;grind
theorem HY(x c:Int):md (x+57896044618658097711785492504343953926634992332820282019728792003956564819949 * c)=md x:=by unfold md;grind
theorem jQ(x y:Int):md (x+y)=(md x+md y) % nP:=GL (by grind [Int.natCast_add,YR,Int.add_emod])
theorem yT(x y:Int):md (x * y)=md x * md y % nP:=GL (by grind [Int.natCast_mul,YR,Int.mul_emod])
theorem yB(x y:Int):md (x - y)=lY (md x) (md y):=by
 have hy:=yV y
 refine GL ?_
 rw[Int.natCast_add,YR,show ((nP - md y:Nat):Int)=57896044618658097711785492504343953926634992332820282019728792003956564819949 - (md y:Int) by have:(nP:Int)=57896044618658097711785492504343953926634992332820282019728792003956564819949:=rfl;omega,YR]
 omega
def fv(a:Q6):Int:=v5 a.a0 a.a1 a.a2 a.a3 a.a4
def fN(a:Q6):Nat:=md (fv a)
theorem Qh7(a:Q6):fN a < nP:=yV _
abbrev Qp(x:Int):Prop:=0<=x/\x < 2251799813947392
abbrev wide(x:Int):Prop:=0<=x/\x < 18446744073709535232
def UU(a:Q6):Prop:=Qp a.a0/\Qp a.a1/\Qp a.a2/\Qp a.a3/\Qp a.a4
def lR(a0 a1 a2 a3 a4:Int):Q6:=
 ⟨a0 % 2251799813685248+19 * ((a4+(a3+(a2+(a1+a0 / 2251799813685248) / 2251799813685248) / 2251799813685248) / 2251799813685248) / 2251799813685248),(a1+a0 / 2251799813685248) % 2251799813685248,(a2+(a1+a0 / 2251799813685248) / 2251799813685248) % 2251799813685248,(a3+(a2+(a1+a0 / 2251799813685248) / 2251799813685248) / 2251799813685248) % 2251799813685248,(a4+(a3+(a2+(a1+a0 / 2251799813685248) / 2251799813685248) / 2251799813685248) / 2251799813685248) % 2251799813685248⟩
theorem XC(a0 a1 a2 a3 a4:Int)(h0:wide a0)(h1:wide a1)(h2:wide a2)(h3:wide a3)(h4:wide a4):Qz (OV ⟨a0,a1,a2,a3,a4⟩) (λr=>r=lR a0 a1 a2 a3 a4):=by
 unfold OV
 refine Qz.fn ?_
 unfold Qyc
 refine Ok.tt (Ok.tt (Ok.tt (Ok.tt (Ok.tt (Ok.ff (Ok.d ?_))))))
 unfold lR
 simp only[Int.add_zero]
 rw[U2 h0.1 (by omega),EG h0.1]
 grind [U2,EG,De]
theorem uG(a0 a1 a2 a3 a4:Int):fN (lR a0 a1 a2 a3 a4)=md (v5 a0 a1 a2 a3 a4):=by
 have e:=vO (a0:=a0) (a1:=a1) (a2:=a2) (a3:=a3) (a4:=a4) rfl rfl rfl rfl rfl
 unfold fN fv lR
 simp only
 rw[e,Ad]
theorem Lt(a0 a1 a2 a3 a4:Int)(h0:wide a0)(h1:wide a1)(h2:wide a2)(h3:wide a3)(h4:wide a4):Qz (OV ⟨a0,a1,a2,a3,a4⟩) (λr=>UU r/\fN r=md (v5 a0 a1 a2 a3 a4)):=by
 refine(XC a0 a1 a2 a3 a4 h0 h1 h2 h3 h4).mono λr hr=>?_
 grind [uG,lR,UU]
theorem Lp(a b:Q6)(ha:UU a)(hb:UU b):Qz (Cj a b) (λr=>UU r/\fN r=(fN a+fN b) % nP):=by
 obtain⟨h0,h1,h2,h3,h4⟩:=ha
 obtain⟨k0,k1,k2,k3,k4⟩:=hb
 unfold Cj
 refine Qz.fn ?_
 unfold Qyv
 rw[U2 (n:=a.a0+b.a0) (by omega) (by omega),U2 (n:=a.a1+b.a1) (by omega) (by omega),U2 (n:=a.a2+b.a2) (by omega) (by omega),U2 (n:=a.a3+b.a3) (by omega) (by omega),U2 (n:=a.a4+b.a4) (by omega) (by omega)]
 refine Ok.tt (Ok.tt (Ok.tt (Ok.tt (Ok.tt (Ok.ff (Ok.c (Lt _ _ _ _ _ ⟨by omega,by omega⟩ ⟨by omega,by omega⟩ ⟨by omega,by omega⟩ ⟨by omega,by omega⟩ ⟨by omega,by omega⟩) λr hr=>Ok.d ⟨hr.1,?_⟩))))))
 rw[hr.2]
 unfold fN
 rw[<-jQ]
 congr 1
 unfold fv v5;omega
theorem DF(a b:Q6)(ha:UU a)(hb:UU b):Qz (Cy a b) (λr=>UU r/\fN r=lY (fN a) (fN b)):=by
 obtain⟨h0,h1,h2,h3,h4⟩:=ha
 obtain⟨k0,k1,k2,k3,k4⟩:=hb
 unfold Cy
 refine Qz.fn ?_
 unfold Qyt
 rw[U2 (n:=9007199254740988 - b.a0) (by omega) (by omega),U2 (n:=9007199254740988 - b.a1) (by omega) (by omega),U2 (n:=9007199254740988 - b.a2) (by omega) (by omega),U2 (n:=9007199254740988 - b.a3) (by omega) (by omega),U2 (n:=9007199254740988 - b.a4) (by omega) (by omega)]
 rw[U2 (n:=a.a0+(9007199254740988 - b.a0)) (by omega) (by omega),U2 (n:=a.a1+(9007199254740988 - b.a1)) (by omega) (by omega),U2 (n:=a.a2+(9007199254740988 - b.a2)) (by omega) (by omega),U2 (n:=a.a3+(9007199254740988 - b.a3)) (by omega) (by omega),U2 (n:=a.a4+(9007199254740988 - b.a4)) (by omega) (by omega)]
 rw[U2 (n:=a.a0+(9007199254740988 - b.a0) - 72) (by omega) (by omega)]
 refine Ok.tt (Ok.tt (Ok.tt (Ok.tt (Ok.tt (Ok.ff (Ok.c (Lt _ _ _ _ _ ⟨by omega,by omega⟩ ⟨by omega,by omega⟩ ⟨by omega,by omega⟩ ⟨by omega,by omega⟩ ⟨by omega,by omega⟩) λr hr=>Ok.d ⟨hr.1,?_⟩))))))
 rw[hr.2]
 have e:v5 (a.a0+(9007199254740988 - b.a0) - 72) (a.a1+(9007199254740988 - b.a1)) (a.a2+(9007199254740988 - b.a2)) (a.a3+(9007199254740988 - b.a3)) (a.a4+(9007199254740988 - b.a4))=fv a - fv b+57896044618658097711785492504343953926634992332820282019728792003956564819949 * 4:=by unfold fv v5;omega
 rw[e,HY,yB];rfl
theorem SX(x y:Int)(hx:0<=x/\x < 18446744073709551616)(hy:0<=y/\y < 18446744073709551616):Qz (Hf x y) (λr=>r.1 * 18446744073709551616+r.2=x * y/\(0<=r.1/\r.1 < 18446744073709551616)/\0<=r.2/\r.2 < 18446744073709551616):=by
 unfold Hf
 refine Qz.fn ?_
 unfold g98
 refine Ok.d ?_
 have wr:∀n,0<=Z1 n/\Z1 n < 18446744073709551616:=(by grind [UT])
 rw[Gz hx.1,Gz hy.1,kL hx.1 hx.2,kL hy.1 hy.2]
 have ex:x=x / 4294967296 * 4294967296+x % 4294967296:=by omega
 have ey:y=y / 4294967296 * 4294967296+y % 4294967296:=by omega
 have bx0:0<=x % 4294967296/\x % 4294967296<=4294967295:=by omega
 have bx1:0<=x / 4294967296/\x / 4294967296<=4294967295:=by omega
 have by0:0<=y % 4294967296/\y % 4294967296<=4294967295:=by omega
 have by1:0<=y / 4294967296/\y / 4294967296<=4294967295:=by omega
 generalize x / 4294967296=x1 at *
 generalize x % 4294967296=x0 at *
 generalize y / 4294967296=y1 at *
 generalize y % 4294967296=y0 at *
 have key:∀a b:Int,0<=a/\a<=4294967295->0<=b/\b<=4294967295->0<=a * b/\a * b<=18446744065119617025:=λa b ha hb=>⟨Int.mul_nonneg ha.1 hb.1,Int.mul_le_mul ha.2 hb.2 hb.1 (by decide)⟩
 have p00:=key x0 y0 bx0 by0
 have p01:=key x0 y1 bx0 by1
 have p10:=key x1 y0 bx1 by0
 have p11:=key x1 y1 bx1 by1
 have e:x * y=x1 * y1 * 18446744073709551616+(x1 * y0+x0 * y1) * 4294967296+x0 * y0:=by grind
 rw[e,Gz (wr _).1,Gz (wr _).1,kL (wr _).1 (wr _).2,Gz (wr _).1]
 refine⟨?_,wr _,wr _⟩
 simp only[UT]
 grind
def Acc(n:Nat)(A l h:Int):Prop:=l+18446744073709551616 * h=A/\(0<=l/\l < 18446744073709551616)/\0<=h/\h<=(n:Int) * 70368744177664
theorem kG:Acc 0 0 0 0:=by unfold Acc;omega
theorem SB{ρ:Type}{Q:ρ->Prop}{a:Nat}{o1 o2 o3:Operand}{d:Nat}{x y c:Int}{K:Int×Int->TT ρ}(hx:0<=x)(hy:0<=y)(hc:0<=c/\c<=1)(h:Ok (K ((x+y+c) % 18446744073709551616,(x+y+c) / 18446744073709551616)) Q):Ok (.Qy a (adc o1 o2 o3 d x y c) K) Q:=by
 refine Ok.o (r:=((x+y+c) % 18446744073709551616,(x+y+c) / 18446744073709551616)) ?_ h
 show (bif _ then _ else _)=_
 grind
theorem L3{ρ:Type}{Q:ρ->Prop}{n:Nat}{A x y lo hi:Int}{a b c d1 d2:Nat}{o1 o2 o3 o4 o5 o6:Operand}{K:Int×Int->Int×Int->Int×Int->TT ρ}(ha:Acc n A lo hi)(hn:n<=4)(hx:Qp x)(hy:0<=y/\y < 42784196465000448)
  (h:∀r l h',Acc (n+1) (A+x * y) l.1 h'.1->Ok (K r l h') Q) :
  Ok (.call a (Hf x y) [] [] λr=>.Qy b (adc o1 o2 o3 d1 lo r.2 0) λl=>.Qy c (adc o4 o5 o6 d2 hi r.1 l.2) λh'=>K r l h') Q:=by
 obtain⟨a1,a2,a3,a4⟩:=ha
 refine Ok.c (SX x y ⟨hx.1,by omega⟩ ⟨hy.1,by omega⟩) λr hr=>?_
 obtain⟨r1,r2,r3⟩:=hr
 have hb:x * y<=2251799813947392 * 42784196465000448:=Int.mul_le_mul (by omega) (by omega) hy.1 (by decide)
 have hr1:r.1<=5222680240000:=by omega
 refine SB (by omega) (by omega) (by omega) (SB (by omega) (by omega) (by omega) (h _ _ _ ?_))
 show Acc (n+1) (A+x * y) ((lo+r.2+0) % 18446744073709551616) ((hi+r.1+(lo+r.2+0) / 18446744073709551616) % 18446744073709551616)
 unfold Acc
 omega
theorem qF{ρ:Type}{Q:ρ->Prop}{A l h up:Int}{a d:Nat}{o1 o2 o3:Operand}{K:Int×Int->TT ρ}(ha:Acc 5 A l h)(hu:0<=up/\up < 18446744073709551616)
  (hk:∀r:Int×Int,Zn .u64 (M3 .u64 (Z1 (h+r.2)) 13) (Z4 .u64 r.1 51)=(A+up) / 2251799813685248->U0 .u64 r.1 2251799813685247=(A+up) % 2251799813685248->Ok (K r) Q) :
  Ok (.Qy a (adc o1 o2 o3 d l up 0) K) Q:=by
 obtain⟨a1,a2,a3,a4⟩:=ha
 grind [SB,U2,lD,De,Zn,M3,Z1,Z4,U0]
theorem Qh5{A0 A1 A2 A3 A4 u0 u1 u2 u3 u4 X:Int}(h0:u0=A0 / 2251799813685248)(h1:u1=(A1+u0) / 2251799813685248)(h2:u2=(A2+u1) / 2251799813685248)(h3:u3=(A3+u2) / 2251799813685248)(h4:u4=(A4+u3) / 2251799813685248)(hX:X=A0 % 2251799813685248+19 * u4) :
  v5 (X % 2251799813685248) ((A1+u0) % 2251799813685248+X / 2251799813685248) ((A2+u1) % 2251799813685248) ((A3+u2) % 2251799813685248) ((A4+u3) % 2251799813685248)=v5 A0 A1 A2 A3 A4 - 57896044618658097711785492504343953926634992332820282019728792003956564819949 * u4:=by
 unfold v5;omega
theorem N2(a b:Q6)(ha:UU a)(hb:UU b):Qz (Kn a b) (λr=>UU r/\fN r=fN a * fN b % nP):=by
 obtain⟨h0,h1,h2,h3,h4⟩:=ha
 obtain⟨k0,k1,k2,k3,k4⟩:=hb
 obtain⟨a0,a1,a2,a3,a4⟩:=a
 obtain⟨b0,b1,b2,b3,b4⟩:=b
 simp only at h0 h1 h2 h3 h4 k0 k1 k2 k3 k4
 unfold Kn
 refine Qz.fn ?_
 unfold Qja
 simp only
 rw[U2 (n:=19 * b1) (by omega) (by omega),U2 (n:=19 * b2) (by omega) (by omega),U2 (n:=19 * b3) (by omega) (by omega),U2 (n:=19 * b4) (by omega) (by omega)]
 refine Ok.tt (Ok.tt (Ok.ff ?_))
 refine L3 kG (by decide) h0 ⟨by omega,by omega⟩ λ_ _ _ A0=>?_
 refine Ok.tt (Ok.ff ?_)
 refine L3 kG (by decide) h0 ⟨by omega,by omega⟩ λ_ _ _ A1=>?_
 refine Ok.tt (Ok.ff ?_)
 refine L3 kG (by decide) h0 ⟨by omega,by omega⟩ λ_ _ _ A2=>?_
 refine Ok.tt (Ok.ff ?_)
 refine L3 kG (by decide) h0 ⟨by omega,by omega⟩ λ_ _ _ A3=>?_
 refine Ok.tt (Ok.ff ?_)
 refine L3 kG (by decide) h0 ⟨by omega,by omega⟩ λ_ _ _ A4=>?_
 refine Ok.ff (Ok.tt (Ok.tt (Ok.ff ?_)))
 refine L3 A1 (by decide) h1 ⟨by omega,by omega⟩ λ_ _ _ A1=>?_
 refine Ok.tt (Ok.ff ?_)
 refine L3 A2 (by decide) h1 ⟨by omega,by omega⟩ λ_ _ _ A2=>?_
 refine Ok.tt (Ok.ff ?_)
 refine L3 A3 (by decide) h1 ⟨by omega,by omega⟩ λ_ _ _ A3=>?_
 refine Ok.tt (Ok.ff ?_)
 refine L3 A4 (by decide) h1 ⟨by omega,by omega⟩ λ_ _ _ A4=>?_
 refine Ok.tt (Ok.tt ?_)
 refine L3 A0 (by decide) h1 ⟨by omega,by omega⟩ λ_ _ _ A0=>?_
 refine Ok.ff (Ok.tt (Ok.tt (Ok.ff ?_)))
 refine L3 A2 (by decide) h2 ⟨by omega,by omega⟩ λ_ _ _ A2=>?_
 refine Ok.tt (Ok.ff ?_)
 refine L3 A3 (by decide) h2 ⟨by omega,by omega⟩ λ_ _ _ A3=>?_
 refine Ok.tt (Ok.ff ?_)
 refine L3 A4 (by decide) h2 ⟨by omega,by omega⟩ λ_ _ _ A4=>?_
 refine Ok.tt (Ok.tt ?_)
 refine L3 A0 (by decide) h2 ⟨by omega,by omega⟩ λ_ _ _ A0=>?_
 refine Ok.tt (Ok.tt ?_)
 refine L3 A1 (by decide) h2 ⟨by omega,by omega⟩ λ_ _ _ A1=>?_
 refine Ok.ff (Ok.tt (Ok.tt (Ok.ff ?_)))
 refine L3 A3 (by decide) h3 ⟨by omega,by omega⟩ λ_ _ _ A3=>?_
 refine Ok.tt (Ok.ff ?_)
 refine L3 A4 (by decide) h3 ⟨by omega,by omega⟩ λ_ _ _ A4=>?_
 refine Ok.tt (Ok.tt ?_)
 refine L3 A0 (by decide) h3 ⟨by omega,by omega⟩ λ_ _ _ A0=>?_
 refine Ok.tt (Ok.tt ?_)
 refine L3 A1 (by decide) h3 ⟨by omega,by omega⟩ λ_ _ _ A1=>?_
 refine Ok.tt (Ok.tt ?_)
 refine L3 A2 (by decide) h3 ⟨by omega,by omega⟩ λ_ _ _ A2=>?_
 refine Ok.ff (Ok.tt (Ok.tt (Ok.ff ?_)))
 refine L3 A4 (by decide) h4 ⟨by omega,by omega⟩ λ_ _ _ A4=>?_
 refine Ok.tt (Ok.tt ?_)
 refine L3 A0 (by decide) h4 ⟨by omega,by omega⟩ λ_ _ _ A0=>?_
 refine Ok.tt (Ok.tt ?_)
 refine L3 A1 (by decide) h4 ⟨by omega,by omega⟩ λ_ _ _ A1=>?_
 refine Ok.tt (Ok.tt ?_)
 refine L3 A2 (by decide) h4 ⟨by omega,by omega⟩ λ_ _ _ A2=>?_
 refine Ok.tt (Ok.tt ?_)
 refine L3 A3 (by decide) h4 ⟨by omega,by omega⟩ λ_ _ _ A3=>?_
 refine Ok.ff (Ok.ff (Ok.tt ?_))
 have bd:∀{A l h:Int},Acc 5 A l h->0<=A/\A < 9000000000000000000000000000000000:=(by grind [Acc])
 have n0:=bd A0;have n1:=bd A1;have n2:=bd A2;have n3:=bd A3;have n4:=bd A4
 have ev:v5 a0 a1 a2 a3 a4 * v5 b0 b1 b2 b3 b4=_:=gI a0 a1 a2 a3 a4 b0 b1 b2 b3 b4
 have r0:0+a0 * b0+a1 * (19 * b4)+a2 * (19 * b3)+a3 * (19 * b2)+a4 * (19 * b1)=a0 * b0+a1 * (19 * b4)+a2 * (19 * b3)+a3 * (19 * b2)+a4 * (19 * b1):=by omega
 have r1:0+a0 * b1+a1 * b0+a2 * (19 * b4)+a3 * (19 * b3)+a4 * (19 * b2)=a0 * b1+a1 * b0+a2 * (19 * b4)+a3 * (19 * b3)+a4 * (19 * b2):=by omega
 have r2:0+a0 * b2+a1 * b1+a2 * b0+a3 * (19 * b4)+a4 * (19 * b3)=a0 * b2+a1 * b1+a2 * b0+a3 * (19 * b4)+a4 * (19 * b3):=by omega
 have r3:0+a0 * b3+a1 * b2+a2 * b1+a3 * b0+a4 * (19 * b4)=a0 * b3+a1 * b2+a2 * b1+a3 * b0+a4 * (19 * b4):=by omega
 have r4:0+a0 * b4+a1 * b3+a2 * b2+a3 * b1+a4 * b0=a0 * b4+a1 * b3+a2 * b2+a3 * b1+a4 * b0:=by omega
 rw[<-r0,<-r1,<-r2,<-r3,<-r4] at ev
 clear r0 r1 r2 r3 r4 bd
 generalize 0+a0 * b0+a1 * (19 * b4)+a2 * (19 * b3)+a3 * (19 * b2)+a4 * (19 * b1)=S0 at *
 generalize 0+a0 * b1+a1 * b0+a2 * (19 * b4)+a3 * (19 * b3)+a4 * (19 * b2)=S1 at *
 generalize 0+a0 * b2+a1 * b1+a2 * b0+a3 * (19 * b4)+a4 * (19 * b3)=S2 at *
 generalize 0+a0 * b3+a1 * b2+a2 * b1+a3 * b0+a4 * (19 * b4)=S3 at *
 generalize 0+a0 * b4+a1 * b3+a2 * b2+a3 * b1+a4 * b0=S4 at *
 clear h0 h1 h2 h3 h4 k0 k1 k2 k3 k4
 refine qF A0 ⟨by decide,by decide⟩ λt0 u0 w0=>Ok.tt ?_
 rw[u0]
 rw[Int.add_zero] at *
 have m0:0<=S0 / 2251799813685248/\S0 / 2251799813685248 < 4611686018427387904:=by omega
 refine qF A1 ⟨by omega,by omega⟩ λt1 u1 w1=>Ok.tt ?_
 rw[u1]
 generalize q0:S0 / 2251799813685248=c0 at *
 have m1:0<=(S1+c0) / 2251799813685248/\(S1+c0) / 2251799813685248 < 4611686018427387904:=by omega
 refine qF A2 ⟨by omega,by omega⟩ λt2 u2 w2=>Ok.tt ?_
 rw[u2]
 generalize q1:(S1+c0) / 2251799813685248=c1 at *
 have m2:0<=(S2+c1) / 2251799813685248/\(S2+c1) / 2251799813685248 < 4611686018427387904:=by omega
 refine qF A3 ⟨by omega,by omega⟩ λt3 u3 w3=>Ok.tt ?_
 rw[u3]
 generalize q2:(S2+c1) / 2251799813685248=c2 at *
 have m3:0<=(S3+c2) / 2251799813685248/\(S3+c2) / 2251799813685248 < 4611686018427387904:=by omega
 refine qF A4 ⟨by omega,by omega⟩ λt4 u4 w4=>Ok.ff ?_
 rw[u4,w0]
 generalize q3:(S3+c2) / 2251799813685248=c3 at *
 have m4:0<=(S4+c3) / 2251799813685248/\(S4+c3) / 2251799813685248 < 4611686018427387904:=by omega
 generalize q4:(S4+c3) / 2251799813685248=c4 at *
 refine Ok.c (SX c4 19 ⟨by omega,by omega⟩ ⟨by decide,by decide⟩) λp hp=>?_
 obtain⟨p1,p2,p3⟩:=hp
 refine SB (by omega) (by omega) (by omega) ?_
 show Ok (.call _ (OV ⟨U0 .u64 ((S0 % 2251799813685248+p.2+0) % 18446744073709551616) 2251799813685247,Z1 (U0 .u64 t1.1 2251799813685247+Zn .u64 (M3 .u64 (Z1 (p.1+(S0 % 2251799813685248+p.2+0) / 18446744073709551616)) 13) (Z4 .u64 ((S0 % 2251799813685248+p.2+0) % 18446744073709551616) 51)),U0 .u64 t2.1 2251799813685247,U0 .u64 t3.1 2251799813685247,U0 .u64 t4.1 2251799813685247⟩) [] [] _) _
 rw[w1,w2,w3,w4,U2 (n:=p.1+(S0 % 2251799813685248+p.2+0) / 18446744073709551616) (by omega) (by omega),lD (by omega) (by omega) (by omega) (by omega),De (by omega) (by omega)]
 have eX:(p.1+(S0 % 2251799813685248+p.2+0) / 18446744073709551616) * 18446744073709551616+(S0 % 2251799813685248+p.2+0) % 18446744073709551616=S0 % 2251799813685248+19 * c4:=by omega
 have eY:(S0 % 2251799813685248+p.2+0) % 18446744073709551616 % 2251799813685248=(S0 % 2251799813685248+19 * c4) % 2251799813685248:=by omega
 rw[eX,eY]
 generalize hX:S0 % 2251799813685248+19 * c4=X at *
 rw[U2 (n:=(S1+c0) % 2251799813685248+X / 2251799813685248) (by omega) (by omega)]
 refine Ok.c (Lt _ _ _ _ _ ⟨by omega,by omega⟩ ⟨by omega,by omega⟩ ⟨by omega,by omega⟩ ⟨by omega,by omega⟩ ⟨by omega,by omega⟩) λr hr=>Ok.d ⟨hr.1,?_⟩
 rw[hr.2,Qh5 q0.symm q1.symm q2.symm q3.symm q4.symm hX.symm,Ad]
 show _=md (v5 a0 a1 a2 a3 a4) * md (v5 b0 b1 b2 b3 b4) % nP
 rw[<-yT,ev,HY]
theorem Wf(b:Bool)(x a:Q6)(hx:UU x)(ha:UU a):Qz (RK b x a) (λr=>UU r/\fN r=(if b then fN x * fN x % nP * fN a % nP else fN x * fN x % nP)):=by
 show Ok (tZ b x a) _
 grind [Ok.c,N2,Ok.e,Ok.d,tZ]
theorem xJ(a n:Nat):a ^ n % nP * (a ^ n % nP) % nP=a ^ (2 * n) % nP:=by rw[<-Nat.mul_mod,<-Nat.pow_add];congr 2;omega
theorem Gl(a n:Nat):a ^ n % nP * (a ^ n % nP) % nP * a % nP=a ^ (2 * n+1) % nP:=by rw[xJ,Nat.pow_succ,Nat.mod_mul_mod]
theorem Le:UU ⟨1,0,0,0,0⟩:=by unfold UU;decide
theorem qL:fN ⟨1,0,0,0,0⟩=1:=by decide +kernel
theorem bW(a:Q6)(ha:UU a):Qz (rE a) (λr=>UU r/\fN r=CA (fN a)):=by
 unfold rE
 refine Qz.fn ?_
 unfold Qjx
 refine Ok.b (R:=λe=>UU e/\∃n,n=2 ^ 250 - 1/\fN e=fN a ^ n % nP) (Ok.s 250 (by decide) (λk y=>UU y.1/\(∃n,n=2 ^ k - 1/\fN y.1=fN a ^ n % nP)/\y.2=(k:Int)) ⟨Le,⟨0,rfl,by rw[qL,Nat.pow_zero];rfl⟩,rfl⟩ (λk y hy hk=>?_) λy hy=>?_) λe he=>?_
 ·obtain⟨x,i⟩:=y
  obtain⟨h1,⟨n,hn,h2⟩,rfl⟩:UU x/\(∃n,n=2 ^ k - 1/\fN x=fN a ^ n % nP)/\i=(k:Int):=hy
  refine Ok.t (by grind) (Ok.c (Wf true x a h1 ha) λr hr=>Ok.d ⟨hr.1,⟨2 * n+1,?_,?_⟩,Z8 hk (by decide)⟩)
  ·grind
  ·rw[hr.2,if_pos rfl,h2,Gl]
 ·obtain⟨x,i⟩:=y
  obtain⟨h1,h2,rfl⟩:UU x/\(∃n,n=2 ^ 250 - 1/\fN x=fN a ^ n % nP)/\i=((250:Nat):Int):=hy
  exact Ok.f rfl (Ok.d ⟨h1,h2⟩)
 ·obtain⟨h1,n,hn,h2⟩:=he
  refine Ok.tt (Ok.c (Wf false e a h1 ha) λr1 q1=>Ok.tt (Ok.c (Wf true r1 a q1.1 ha) λr2 q2=>Ok.tt (Ok.c (Wf false r2 a q2.1 ha) λr3 q3=>Ok.tt (Ok.c (Wf true r3 a q3.1 ha) λr4 q4=>Ok.tt (Ok.c (Wf true r4 a q4.1 ha) λr5 q5=>Ok.ff (Ok.d ⟨q5.1,?_⟩))))))
  have e1:fN r1=fN a ^ (2 * n) % nP:=by rw[q1.2,if_neg (by decide),h2,xJ]
  have e2:fN r2=fN a ^ (2 * (2 * n)+1) % nP:=by rw[q2.2,if_pos rfl,e1,Gl]
  have e3:fN r3=fN a ^ (2 * (2 * (2 * n)+1)) % nP:=by rw[q3.2,if_neg (by decide),e2,xJ]
  have e4:fN r4=fN a ^ (2 * (2 * (2 * (2 * n)+1))+1) % nP:=by rw[q4.2,if_pos rfl,e3,Gl]
  have e5:fN r5=fN a ^ (2 * (2 * (2 * (2 * (2 * n)+1))+1)+1) % nP:=by rw[q5.2,if_pos rfl,e4,Gl]
  have en:2 * (2 * (2 * (2 * (2 * n)+1))+1)+1=nP - 2:=by rw[hn];decide +kernel
  rw[e5,en]
  unfold CA
  rw[qY _ _ _ _ (by decide +kernel),Nat.one_mul]
def E0(w N k j:Nat):Nat:=N % 2 ^ k / 2 ^ (w * j) % 2 ^ w
theorem Oz(w N j:Nat):E0 w N 0 j=0:=by unfold E0;rw[Nat.pow_zero,Nat.mod_one,Nat.zero_div,Nat.zero_mod]
theorem Bm(w N k j:Nat):E0 w N k j < 2 ^ w:=Nat.mod_lt _ (Nat.two_pow_pos _)
theorem mod_succ(N k:Nat):N % 2 ^ (k+1)=N % 2 ^ k+2 ^ k * (N / 2 ^ k % 2):=by rw[Nat.pow_succ,Nat.mod_mul]
theorem NJ(N k:Nat):N / 2 ^ k % 2 < 2:=Nat.mod_lt _ (by decide)
theorem Pv{w N k j r:Nat}(hk:k=w * j+r)(hr:r < w):N % 2 ^ k / 2 ^ (w * j) < 2 ^ r:=by
 simp_all [Nat.div_lt_iff_lt_mul,Nat.two_pow_pos,Nat.pow_add,Nat.add_comm,Nat.mod_lt]
theorem Be{w N k j r:Nat}(hk:k=w * j+r)(hr:r < w):E0 w N k j < 2 ^ r/\E0 w N (k+1) j=E0 w N k j+N / 2 ^ k % 2 * 2 ^ r:=by
 have h1:=Pv (N:=N) hk hr
 have h2:(2:Nat) ^ r * 2<=2 ^ w:=by rw[<-Nat.pow_succ];exact Nat.pow_le_pow_right (by decide) hr
 have hb:=NJ N k
 have e0:E0 w N k j=N % 2 ^ k / 2 ^ (w * j):=Nat.mod_eq_of_lt (by omega)
 refine⟨by grind,?_⟩
 have key:∀b,2 ^ k * b=2 ^ (w * j) * (b * 2 ^ r):=(by grind)
 have e1:N % 2 ^ (k+1) / 2 ^ (w * j)=N % 2 ^ k / 2 ^ (w * j)+N / 2 ^ k % 2 * 2 ^ r:=by
  rw[mod_succ,key,Nat.add_mul_div_left _ _ (Nat.two_pow_pos _)]
 have l2:N % 2 ^ k / 2 ^ (w * j)+N / 2 ^ k % 2 * 2 ^ r < 2 ^ w:=by
  rcases wH (N / 2 ^ k % 2) 1 with h|h
  ·grind
  grind
 grind [Nat.mod_eq_of_lt,E0]
theorem CE{w N k j q r:Nat}(hk:k=w * q+r)(hr:r < w)(hj:j≠q):E0 w N (k+1) j=E0 w N k j:=by
 unfold E0
 rw[mod_succ]
 rcases wH j q with h|h
 ·have hw:w * j+w<=k:=by
   have:=Nat.mul_le_mul_left w (show j+1<=q from h)
   grind
  have e:2 ^ k * (N / 2 ^ k % 2)=2 ^ (w * j) * (2 ^ w * (2 ^ (k - (w * j+w)) * (N / 2 ^ k % 2))):=by
   rw[<-Nat.mul_assoc,<-Nat.mul_assoc,<-Nat.pow_add,<-Nat.pow_add,show w * j+w+(k - (w * j+w))=k by omega]
  rw[e,Nat.add_mul_div_left _ _ (Nat.two_pow_pos _),Nat.add_mul_mod_self_left]
 ·have hw:k+1<=w * j:=by
   have:=Nat.mul_le_mul_left w (show q+1<=j by omega)
   grind
  have l1:N % 2 ^ k < 2 ^ k:=Nat.mod_lt _ (Nat.two_pow_pos _)
  have l2:(2:Nat) ^ k * 2<=2 ^ (w * j):=by rw[<-Nat.pow_succ];simp_all [Nat.pow_le_pow_right]
  have hb:=NJ N k
  have l3:N % 2 ^ k+2 ^ k * (N / 2 ^ k % 2) < 2 ^ (w * j):=by
   rcases wH (N / 2 ^ k % 2) 1 with h|h
   ·grind
   grind
  rw[Nat.div_eq_of_lt l3,Nat.div_eq_of_lt (by omega)]
theorem hP{w N q r:Nat}(hr:r < w):N / 2 ^ (w * q) % 2 ^ w / 2 ^ r % 2=N / 2 ^ (w * q+r) % 2:=by
 have e:(2:Nat) ^ w=2 ^ r * 2 ^ (w - r):=by rw[<-Nat.pow_add,show r+(w - r)=w by omega]
 rw[e,Nat.mod_mul_right_div_self,Nat.div_div_eq_div_mul,<-Nat.pow_add]
 have e2:(2:Nat) ^ (w - r)=2 * 2 ^ (w - r - 1):=by rw[wP,<-Nat.pow_succ];congr 1;omega
 simp_all
def mF(f:Nat->Nat):Nat->Nat
 | 0=>0
 | n+1=>mF f n+f n * 256 ^ n
theorem jH{f:Nat->Nat}(hf:∀i,f i < 256):∀n,mF f n < 256 ^ n
 | 0=>Nat.one_pos
 | n+1=>by
  have h:=jH hf n
  have:=wF (256 ^ n) (show f n<=255 by have:=hf n;omega)
  grind [Nat.pow_succ,mF]
theorem jW{f:Nat->Nat}(hf:∀i,f i < 256):∀{n i:Nat},i < n->mF f n / 256 ^ i % 256=f i
 | n+1,i,h=>by
  show (mF f n+f n * 256 ^ n) / 256 ^ i % 256=f i
  rcases wH i n with h1|h1
  ·have e:f n * 256 ^ n=256 ^ i * (256 * (f n * 256 ^ (n - i - 1))):=by
    have:(256:Nat) ^ n=256 ^ i * (256 * 256 ^ (n - i - 1)):=by rw[<-Nat.mul_assoc,<-Nat.pow_succ,<-Nat.pow_add];congr 1;omega
    grind
   rw[e,Nat.add_mul_div_left _ _ (Nat.pow_pos (by decide)),Nat.add_mul_mod_self_left]
   exact jW hf h1
  ·obtain rfl:i=n:=by omega
   rw[wP,Nat.add_mul_div_left _ _ (Nat.pow_pos (by decide)),Nat.div_eq_of_lt (jH hf _),zP,Nat.mod_eq_of_lt (hf _)]
def on(s:za)(i:Nat):Nat:=(s.data.getD i 0).toNat
theorem HS(s:za)(i:Nat):QZ s (i:Int)=((on s i:Nat):Int):=by unfold QZ on;grind
theorem UA(s:za)(i:Nat):on s i < 256:=UInt8.toNat_lt _
def KY(s:za):Nat:=mF (on s) 32
theorem Fe:∀c:Fin 256,∀k:Fin 8,U0 .u8 (Z4 .u8 ((c.val:Nat):Int) ((k.val:Nat):Int)) 1=((c.val / 2 ^ k.val % 2:Nat):Int):=by decide +kernel
theorem sE:∀k:Fin 8,∀x:Fin 256,∀b:Fin 2,x.val < 2 ^ k.val->Zn .u8 ((x.val:Nat):Int) (M3 .u8 ((b.val:Nat):Int) ((k.val:Nat):Int))=((x.val+b.val * 2 ^ k.val:Nat):Int):=by decide +kernel
theorem td(k n:Nat):Int.tdiv (k:Int) (n:Int)=((k / n:Nat):Int):=(Int.ofNat_tdiv k n).symm
theorem tm(k n:Nat):Int.tmod (k:Int) (n:Int)=((k % n:Nat):Int):=(Int.ofNat_tmod k n).symm
theorem td8(k:Nat)(h:k < 1000):Q0 (Int.tdiv (k:Int) 8)=((k / 8:Nat):Int):=by rw[show (8:Int)=((8:Nat):Int) from rfl,td,Z3 (by omega) (by omega)]
theorem tm8(k:Nat):Int.tmod (k:Int) 8=((k % 8:Nat):Int):=tm k 8
theorem Qqd(k:Nat)(h:k < 1000):Q0 (Int.tdiv (k:Int) 51)=((k / 51:Nat):Int):=by rw[show (51:Int)=((51:Nat):Int) from rfl,td,Z3 (by omega) (by omega)]
theorem Qqm(k:Nat):Int.tmod (k:Int) 51=((k % 51:Nat):Int):=tm k 51
theorem PT(f:Nat->Nat)(hf:∀i,f i < 256){n k:Nat}(h:k / 8 < n):f (k / 8) / 2 ^ (k % 8) % 2=mF f n / 2 ^ k % 2:=by
 rw[<-jW hf h,show (256:Nat) ^ (k / 8)=2 ^ (8 * (k / 8)) by rw[Nat.pow_mul],show (256:Nat)=2 ^ 8 from rfl,hP (Nat.mod_lt _ (by decide)),Nat.div_add_mod]
theorem sM{x r:Nat}(hx:x < 2 ^ r)(hr:r < 51):Zn .u64 (x:Int) (M3 .u64 1 (r:Int))=((x+1 * 2 ^ r:Nat):Int):=by
 have h2:(2:Nat) ^ r * 2<=2 ^ 51:=by rw[<-Nat.pow_succ];exact Nat.pow_le_pow_right (by decide) hr
 rw[show M3 .u64 1 (r:Int)=_ from oV 1 r (by omega)]
 have e:(1:Int) * 2 ^ r % 18446744073709551616=((2 ^ r:Nat):Int):=by
  grind
 rw[e,Qzh x (2 ^ r) (by omega) (by omega),Nat.or_comm]
 have k:=Nat.two_pow_add_eq_or_of_lt hx 1
 grind
def Am(N k:Nat):Q6:=⟨(E0 51 N k 0:Nat),(E0 51 N k 1:Nat),(E0 51 N k 2:Nat),(E0 51 N k 3:Nat),(E0 51 N k 4:Nat)⟩
theorem PQ(w N:Nat){k q:Nat}(hw:0 < w)(hq:k / w=q)(j:Nat):E0 w N (k+1) j=E0 w N k j+if j=q then N / 2 ^ k % 2 * 2 ^ (k % w) else 0:=by
 have hk:k=w * q+k % w:=by rw[<-hq,Nat.div_add_mod]
 by_cases h:j=q
 ·subst h;rw[if_pos rfl];exact(Be hk (Nat.mod_lt _ hw)).2
 ·rw[if_neg h];exact CE hk (Nat.mod_lt _ hw) h
theorem jY(w N:Nat){k q:Nat}(hw:0 < w)(hq:k / w=q):E0 w N k q < 2 ^ (k % w):=(Be (by rw[<-hq,Nat.div_add_mod]) (Nat.mod_lt _ hw)).1
theorem Bh(N:Nat):UU (Am N 255)/\fv (Am N 255)=((N % 2 ^ 255:Nat):Int):=by
 grind [Nat.mod_lt,Am,E0,UU,fv,v5,Nat.reduceMul,Nat.reducePow]
theorem Qzr{N k:Nat}(h:N / 2 ^ k % 2=0):Am N (k+1)=Am N k:=by
 unfold Am
 simp only[PQ 51 N (k:=k) (q:=k / 51) (by decide) rfl,h]
 simp
theorem Qzn{N k:Nat}(h:N / 2 ^ k % 2=1)(q:Nat)(hq:k / 51=q) :
  (⟨if q=0 then Zn .u64 ((E0 51 N k 0:Nat):Int) (M3 .u64 1 ((k % 51:Nat):Int)) else (E0 51 N k 0:Nat),if q=1 then Zn .u64 ((E0 51 N k 1:Nat):Int) (M3 .u64 1 ((k % 51:Nat):Int)) else (E0 51 N k 1:Nat),
   if q=2 then Zn .u64 ((E0 51 N k 2:Nat):Int) (M3 .u64 1 ((k % 51:Nat):Int)) else (E0 51 N k 2:Nat),if q=3 then Zn .u64 ((E0 51 N k 3:Nat):Int) (M3 .u64 1 ((k % 51:Nat):Int)) else (E0 51 N k 3:Nat),
   if q=4 then Zn .u64 ((E0 51 N k 4:Nat):Int) (M3 .u64 1 ((k % 51:Nat):Int)) else (E0 51 N k 4:Nat)⟩:Q6)=Am N (k+1):=by
 have sb:=jY 51 N (k:=k) (q:=q) (by decide) hq
 have hr:k % 51 < 51:=Nat.mod_lt _ (by decide)
 have one:∀j,(if q=j then Zn .u64 ((E0 51 N k j:Nat):Int) (M3 .u64 1 ((k % 51:Nat):Int)) else ((E0 51 N k j:Nat):Int))=((E0 51 N (k+1) j:Nat):Int):=λj=>by
  rw[PQ 51 N (k:=k) (q:=q) (by decide) hq j,h]
  by_cases e:q=j
  ·subst e;rw[if_pos rfl,if_pos rfl,sM sb hr]
  grind
 rw[one 0,one 1,one 2,one 3,one 4];rfl
theorem Fm{x:Nat}(h:(((x:Nat):Int)==1)=true):x=1:=(by grind)
theorem AL{x:Nat}(hx:x < 2)(h:(((x:Nat):Int)==1)=false):x=0:=by
 grind
theorem dV(s:za)(hs:s.size=32)(N:Nat)(hN:∀k,k < 255->on s (k / 8) / 2 ^ (k % 8) % 2=N / 2 ^ k % 2):Qz (dW s) (λr=>r=Am N 255):=by
 unfold dW
 refine Qz.fn ?_
 unfold Qjo
 refine Ok.b (R:=λe=>e=Am N 255) (Ok.s 255 (by decide) (λk y=>y=(Am N k,(k:Int))) ?_ (λk y hy hk=>?_) λy hy=>?_) λe he=>Ok.d he
 ·grind [Oz,Am]
 ·subst hy
  refine Ok.t (by grind) ?_
  have e1:U0 .u8 (Z4 .u8 (QZ s (Q0 (Int.tdiv (k:Int) 8))) (Int.tmod (k:Int) 8)) 1=((N / 2 ^ k % 2:Nat):Int):=by
   rw[td8 k (by omega),tm8,HS,Fe ⟨on s (k / 8),UA _ _⟩ ⟨k % 8,Nat.mod_lt _ (by decide)⟩,<-hN k hk]
  have e2:=td8 k (by omega)
  have e3:=Qqd k (by omega)
  have hb:=NJ N k
  refine Ok.k (by grind) (Ok.k (by grind) (Ok.e (λhc=>?_) λhc=>?_))
  ·have hc:(U0 .u8 (Z4 .u8 (QZ s (Q0 (Int.tdiv (k:Int) 8))) (Int.tmod (k:Int) 8)) 1==1)=true:=hc
   rw[e1] at hc
   have h1:=Fm hc
   have hm:(decide ((0:Int)<=Int.tmod (k:Int) 51))=true:=by grind
   have hq5:k / 51=0\/k / 51=1\/k / 51=2\/k / 51=3\/k / 51=4:=by omega
   have ew:=Z8 hk (n:=255) (by decide)
   have et:=Qqm k
   rcases hq5 with h|h|h|h|h
   all_goals
    have hm1:=Qzn h1 _ h
    rw[h] at e3
    refine Ok.Yi (by grind) ?_
    grind [Ok.k,Ok.d,Ok,Q0,Int.tdiv,Am]
  ·have hc:(U0 .u8 (Z4 .u8 (QZ s (Q0 (Int.tdiv (k:Int) 8))) (Int.tmod (k:Int) 8)) 1==1)=false:=hc
   rw[e1] at hc
   refine Ok.d ?_
   show (Am N k,Q0 ((k:Int)+1))=(Am N (k+1),((k+1:Nat):Int))
   rw[Z8 hk (by decide),Qzr (AL hb hc)]
 ·subst hy
  exact Ok.f rfl (Ok.d rfl)
theorem aJ(s:za)(hs:s.size=32):Qz (dW s) (λr=>r=Am (KY s) 255):=
 dV s hs (KY s) λk hk=>PT (on s) (UA s) (n:=32) (k:=k) (by omega)
def GR(n:Nat):za:=strOfNums (X9 λj=>((E0 8 n 255 j:Nat):Int))
theorem dS(f:Nat->Int)(q:Nat)(v:Int):((List.range 32).map f).set q v=(List.range 32).map λj=>if j=q then v else f j:=by
 refine List.ext_getElem? λi=>?_
 grind
theorem tight(y:Q6)(hy:UU y):∀x,x=lR y.a0 y.a1 y.a2 y.a3 y.a4->∀z,z=lR x.a0 x.a1 x.a2 x.a3 x.a4->(wide x.a0/\wide x.a1/\wide x.a2/\wide x.a3/\wide x.a4)/\(0<=z.a0/\z.a0 < 2251799813685248)/\(0<=z.a1/\z.a1 < 2251799813685248)/\(0<=z.a2/\z.a2 < 2251799813685248)/\(0<=z.a3/\z.a3 < 2251799813685248)/\(0<=z.a4/\z.a4 < 2251799813685248):=by
 obtain⟨a0,a1,a2,a3,a4⟩:=y
 obtain⟨h0,h1,h2,h3,h4⟩:=hy
 rintro _ rfl _ rfl
 unfold lR
 simp only at *
 omega
theorem GN{W:Nat}{y0 y1 y2 y3 y4:Int}(h0:0<=y0/\y0 < 2251799813685248)(h1:0<=y1/\y1 < 2251799813685248)(h2:0<=y2/\y2 < 2251799813685248)(h3:0<=y3/\y3 < 2251799813685248)(h4:0<=y4/\y4 < 2251799813685248)(hW:(W:Int)=v5 y0 y1 y2 y3 y4):Am W 255=⟨y0,y1,y2,y3,y4⟩:=by
 grind [Nat.mod_eq_of_lt,v5,Am,E0,Nat.reduceMul,Nat.reducePow]
theorem dB(z:Q6)(h0:0<=z.a0/\z.a0 < 2251799813685248)(h1:0<=z.a1/\z.a1 < 2251799813685248)(h2:0<=z.a2/\z.a2 < 2251799813685248)(h3:0<=z.a3/\z.a3 < 2251799813685248)(h4:0<=z.a4/\z.a4 < 2251799813685248) :
  (if 0 < (z.a4+(z.a3+(z.a2+(z.a1+(z.a0+19) / 2251799813685248) / 2251799813685248) / 2251799813685248) / 2251799813685248) / 2251799813685248 then
   (⟨(z.a0+19) % 2251799813685248,(z.a1+(z.a0+19) / 2251799813685248) % 2251799813685248,(z.a2+(z.a1+(z.a0+19) / 2251799813685248) / 2251799813685248) % 2251799813685248,(z.a3+(z.a2+(z.a1+(z.a0+19) / 2251799813685248) / 2251799813685248) / 2251799813685248) % 2251799813685248,(z.a4+(z.a3+(z.a2+(z.a1+(z.a0+19) / 2251799813685248) / 2251799813685248) / 2251799813685248) / 2251799813685248) % 2251799813685248⟩:Q6)
   else z)=Am (fN z) 255:=by
 obtain⟨a0,a1,a2,a3,a4⟩:=z
 have hm:((fN ⟨a0,a1,a2,a3,a4⟩:Nat):Int)=v5 a0 a1 a2 a3 a4 % 57896044618658097711785492504343953926634992332820282019728792003956564819949:=YR (v5 a0 a1 a2 a3 a4)
 generalize fN ⟨a0,a1,a2,a3,a4⟩=W at *
 dsimp only at h0 h1 h2 h3 h4 ⊢
 have key:∀a:Int,a=a / 2251799813685248 * 2251799813685248+a % 2251799813685248/\0<=a % 2251799813685248/\a % 2251799813685248 < 2251799813685248:=λa=>by omega
 have k0:=key (a0+19)
 generalize (a0+19) / 2251799813685248=u0 at *
 generalize (a0+19) % 2251799813685248=y0 at *
 have k1:=key (a1+u0)
 generalize (a1+u0) / 2251799813685248=u1 at *
 generalize (a1+u0) % 2251799813685248=y1 at *
 have k2:=key (a2+u1)
 generalize (a2+u1) / 2251799813685248=u2 at *
 generalize (a2+u1) % 2251799813685248=y2 at *
 have k3:=key (a3+u2)
 generalize (a3+u2) / 2251799813685248=u3 at *
 generalize (a3+u2) % 2251799813685248=y3 at *
 have k4:=key (a4+u3)
 generalize (a4+u3) / 2251799813685248=u4 at *
 generalize (a4+u3) % 2251799813685248=y4 at *
 clear key
 have e:v5 a0 a1 a2 a3 a4+19=v5 y0 y1 y2 y3 y4+57896044618658097711785492504343953926634992332820282019728792003956564819968 * u4:=by unfold v5;omega
 have hV:0<=v5 a0 a1 a2 a3 a4/\v5 a0 a1 a2 a3 a4 < 57896044618658097711785492504343953926634992332820282019728792003956564819968:=by unfold v5;omega
 have hY:0<=v5 y0 y1 y2 y3 y4/\v5 y0 y1 y2 y3 y4 < 57896044618658097711785492504343953926634992332820282019728792003956564819968:=by unfold v5;omega
 by_cases h:0 < u4
 ·rw[if_pos h]
  grind [GN]
 ·rw[if_neg h]
  grind [GN]
theorem bH(a:Q6)(ha:UU a):Qz (rM a) (λr=>r=GR (fN a)):=by
 have ha':=ha
 obtain⟨h0,h1,h2,h3,h4⟩:=ha'
 unfold rM
 refine Qz.fn ?_
 unfold Qjd
 obtain⟨wx,z0,z1,z2,z3,z4⟩:=tight a ha _ rfl _ rfl
 refine Ok.c (XC a.a0 a.a1 a.a2 a.a3 a.a4 ⟨by omega,by omega⟩ ⟨by omega,by omega⟩ ⟨by omega,by omega⟩ ⟨by omega,by omega⟩ ⟨by omega,by omega⟩) λx hx=>?_
 have ex:fN x=fN a:=by rw[hx,uG];rfl
 rw[<-hx] at wx z0 z1 z2 z3 z4
 refine Ok.c (XC x.a0 x.a1 x.a2 x.a3 x.a4 wx.1 wx.2.1 wx.2.2.1 wx.2.2.2.1 wx.q) λz hz=>?_
 have ez:fN z=fN a:=by rw[<-ex,hz,uG];rfl
 rw[<-hz] at z0 z1 z2 z3 z4
 clear hx hz wx h0 h1 h2 h3 h4
 refine Ok.tt (Ok.tt (Ok.tt (Ok.tt (Ok.tt (Ok.ff ?_)))))
 have hrest:=dB z z0 z1 z2 z3 z4
 rw[ez] at hrest
 rw[Int.add_zero,U2 (n:=z.a0+19) (by omega) (by omega),U2 (n:=z.a0+19) (by omega) (by omega),EG (a:=z.a0+19) (by omega),De (a:=z.a0+19) (by omega) (by omega)]
 have c0:0<=(z.a0+19) / 2251799813685248/\(z.a0+19) / 2251799813685248<=1:=by omega
 rw[U2 (n:=z.a1+(z.a0+19) / 2251799813685248) (by omega) (by omega),EG (a:=z.a1+(z.a0+19) / 2251799813685248) (by omega),De (a:=z.a1+(z.a0+19) / 2251799813685248) (by omega) (by omega)]
 have c1:0<=(z.a1+(z.a0+19) / 2251799813685248) / 2251799813685248/\(z.a1+(z.a0+19) / 2251799813685248) / 2251799813685248<=1:=by omega
 rw[U2 (n:=z.a2+(z.a1+(z.a0+19) / 2251799813685248) / 2251799813685248) (by omega) (by omega),EG (a:=z.a2+(z.a1+(z.a0+19) / 2251799813685248) / 2251799813685248) (by omega),De (a:=z.a2+(z.a1+(z.a0+19) / 2251799813685248) / 2251799813685248) (by omega) (by omega)]
 have c2:0<=(z.a2+(z.a1+(z.a0+19) / 2251799813685248) / 2251799813685248) / 2251799813685248/\(z.a2+(z.a1+(z.a0+19) / 2251799813685248) / 2251799813685248) / 2251799813685248<=1:=by omega
 rw[U2 (n:=z.a3+(z.a2+(z.a1+(z.a0+19) / 2251799813685248) / 2251799813685248) / 2251799813685248) (by omega) (by omega),EG (a:=z.a3+(z.a2+(z.a1+(z.a0+19) / 2251799813685248) / 2251799813685248) / 2251799813685248) (by omega),De (a:=z.a3+(z.a2+(z.a1+(z.a0+19) / 2251799813685248) / 2251799813685248) / 2251799813685248) (by omega) (by omega)]
 have c3:0<=(z.a3+(z.a2+(z.a1+(z.a0+19) / 2251799813685248) / 2251799813685248) / 2251799813685248) / 2251799813685248/\(z.a3+(z.a2+(z.a1+(z.a0+19) / 2251799813685248) / 2251799813685248) / 2251799813685248) / 2251799813685248<=1:=by omega
 rw[U2 (n:=z.a4+(z.a3+(z.a2+(z.a1+(z.a0+19) / 2251799813685248) / 2251799813685248) / 2251799813685248) / 2251799813685248) (by omega) (by omega),EG (a:=z.a4+(z.a3+(z.a2+(z.a1+(z.a0+19) / 2251799813685248) / 2251799813685248) / 2251799813685248) / 2251799813685248) (by omega),De (a:=z.a4+(z.a3+(z.a2+(z.a1+(z.a0+19) / 2251799813685248) / 2251799813685248) / 2251799813685248) / 2251799813685248) (by omega) (by omega)]
 refine Ok.b (R:=λe=>e=Am (fN a) 255) (Ok.e (λhc=>Ok.d ?_) λhc=>Ok.d ?_) λe he=>?_
 ·rw[<-hrest,if_pos (by simpa using hc)]
 ·rw[<-hrest,if_neg (by simpa using hc)]
 subst he
 refine Ok.o rfl (Ok.b (R:=λe=>e=X9 λj=>((E0 8 (fN a) 255 j:Nat):Int)) ?_ λe he=>?_)
 rotate_left
 ·subst he
  exact Ok.fact rfl (Ok.o rfl (Ok.d rfl))
 have hW:fN a < nP:=Qh7 a
 generalize fN a=W at *
 clear hrest
 refine Ok.s 255 (by decide) (λk y=>y=((List.range 32).map (λj=>((E0 8 W k j:Nat):Int)),(k:Int))) ?_ (λk y hy hk=>?_) λy hy=>?_
 ·simp only[Oz];rfl
 ·subst hy
  refine Ok.t (zR (show (k:Int) < 255 by omega)) ?_
  have hq8:k / 8 < 32:=by omega
  have hrow:((List.range 32).map (λj=>((E0 8 W k j:Nat):Int)))[0+k / 8]?=some ((E0 8 W k (k / 8):Nat):Int):=by
   rw[zP,zX,List.getElem?_range hq8];rfl
  have hr:k % 51 < 51:=Nat.mod_lt _ (by decide)
  have hr8:k % 8 < 8:=Nat.mod_lt _ (by decide)
  have hsb:=jY 8 W (k:=k) (q:=k / 8) (by decide) rfl
  have hs8:=Bm 8 W k (k / 8)
  have hx:=PQ 8 W (k:=k) (q:=k / 8) (by decide) rfl
  have hbit:∀q,k / 51=q->W % 2 ^ 255 / 2 ^ (51 * q) % 2 ^ 51 / 2 ^ (k % 51) % 2=W / 2 ^ k % 2:=λq hq=>by
   rw[hP hr,<-hq,Nat.div_add_mod,Nat.mod_eq_of_lt (Nat.lt_trans hW (by decide +kernel))]
  have hb2:=NJ W k
  have fin:∀x:Int,x=((W / 2 ^ k % 2:Nat):Int)->(((List.range 32).map (λj=>((E0 8 W k j:Nat):Int))).set (0+k / 8) (Zn .u8 ((E0 8 W k (k / 8):Nat):Int) (M3 .u8 (Qm x) ((k % 8:Nat):Int))),Q0 ((k:Int)+1))=((List.range 32).map (λj=>((E0 8 W (k+1) j:Nat):Int)),((k+1:Nat):Int)):=λx hx'=>by
   subst hx'
   have e1:Qm ((W / 2 ^ k % 2:Nat):Int)=((W / 2 ^ k % 2:Nat):Int):=by show IntKind.u8.wrap _=_;rw[IntKind.wrap_u8];omega
   rw[Z8 hk (by decide),e1,sE ⟨k % 8,hr8⟩ ⟨E0 8 W k (k / 8),hs8⟩ ⟨W / 2 ^ k % 2,hb2⟩ hsb,zP,dS]
   congr 1
   refine wn λj _=>?_
   rw[hx j]
   by_cases e:j=k / 8
   ·subst e;rw[if_pos rfl,if_pos rfl]
   ·rw[if_neg e,if_neg e,Nat.add_zero]
  have hq5:k / 51=0\/k / 51=1\/k / 51=2\/k / 51=3\/k / 51=4:=by omega
  have hlm:∀q,q < 5->U0 .u64 (Z4 .u64 ((W % 2 ^ 255 / 2 ^ (51 * q) % 2 ^ 51:Nat):Int) ((k % 51:Nat):Int)) 1=((W % 2 ^ 255 / 2 ^ (51 * q) % 2 ^ 51 / 2 ^ (k % 51) % 2:Nat):Int):=λq _=>by
   have hl:W % 2 ^ 255 / 2 ^ (51 * q) % 2 ^ 51 < 2 ^ 51:=Nat.mod_lt _ (by decide)
   generalize W % 2 ^ 255 / 2 ^ (51 * q) % 2 ^ 51=x at *
   rw[show Z4 .u64 (x:Int) ((k % 51:Nat):Int)=_ from Vc (by omega) _ (by omega)]
   have e:(x:Int) / 2 ^ (k % 51)=((x / 2 ^ (k % 51):Nat):Int):=by rw[Int.natCast_ediv,Int.natCast_pow];rfl
   have hle:=Nat.div_le_self x (2 ^ (k % 51))
   rw[e]
   generalize x / 2 ^ (k % 51)=d at *
   rw[Qd3 (by omega) (by omega)];omega
  simp only[td8 k (by omega),Qqd k (by omega),tm8,Qqm,zL]
  refine Ok.k (by simp;omega) (Ok.r rfl hrow ?_)
  rcases hq5 with h|h|h|h|h
  all_goals
   have hb:=hbit _ h
   rw[h]
   refine Ok.Yi (by decide) (Ok.k (by simp;omega) (Ok.k (by simp;omega) (Ok.k (by simp;omega) (Ok.r rfl hrow (Ok.re (Ok.d (fin _ ?_)))))))
   exact(hlm _ (by decide)).trans (congrArg Nat.cast hb)
 ·subst hy
  exact Ok.f rfl (Ok.d rfl)
theorem Ro{f g:Nat->Int}(h:∀i,i < 32->f i=g i):X9 f=X9 g:=by
 refine List.ext_getElem? λi=>?_
 simp_all [Yg,if_pos,if_neg]
theorem Fi{s:za}{k:Nat}(h:k < s.size):(Q3 s)[k]?=some (QZ s (k:Int)):=by
 simp_all [zX,zL,Array.getElem?_toList,we,wk,Q3,QZ]
theorem yA{s:za}(hs:s.size=32):Q3 s=X9 (Ze s):=by
 refine List.ext_getElem? λi=>?_
 rw[Yg]
 by_cases hi:i < 32
 ·rw[if_pos hi,Fi (by omega)];rfl
 simp_all [if_neg,wZ,J3]
theorem sD{f:Nat->Nat}(hf:∀i,f i < 256){i:Nat}(hi:i < 32):on (strOfNums (X9 λj=>((f j:Nat):Int))) i=f i:=by
 have hl:Q3 (strOfNums (X9 λj=>((f j:Nat):Int)))=X9 λj=>((f j:Nat):Int):=R4 λc hc=>by
  obtain⟨j,hj⟩:=List.getElem?_of_mem hc
  rw[Yg] at hj
  grind
 have hsz:(strOfNums (X9 λj=>((f j:Nat):Int))).size=32:=W4 _
 have e:=Fi (s:=strOfNums (X9 λj=>((f j:Nat):Int))) (k:=i) (by omega)
 rw[hl,Yg,if_pos hi,HS] at e
 grind
def clF(s:za)(i:Nat):Nat:=if i=0 then on s 0 / 8 * 8 else if i=31 then on s 31 % 64+64 else on s i
def PF(s:za):za:=strOfNums (X9 λi=>((clF s i:Nat):Int))
theorem Nn(s:za):(PF s).size=32:=W4 _
theorem uT:∀c:Fin 256,U0 .u8 ((c.val:Nat):Int) 248=((c.val / 8 * 8:Nat):Int)/\Zn .u8 (U0 .u8 ((c.val:Nat):Int) 127) 64=((c.val % 64+64:Nat):Int):=by decide +kernel
theorem CJ(s:za)(hs:s.size=32):Qz (rD s) (λr=>r=PF s):=by
 unfold rD
 refine Qz.fn ?_
 unfold Qji
 refine Ok.fact (yA hs) (Ok.o rfl (Ok.o (r:=()) (by show (bif _ then _ else _)=_;rw[J3,hs];rfl) (Ok.o rfl (Ok.o rfl (Ok.o rfl (Ok.o rfl ?_))))))
 refine Ok.r rfl (x:=Ze s 0) rfl (Ok.o rfl (Ok.r rfl (x:=Ze s 0) rfl (Ok.re (Ok.o rfl ?_))))
 refine Ok.r rfl (x:=Ze s 31) rfl (Ok.o rfl (Ok.r rfl (x:=Ze s 31) rfl (Ok.re (Ok.o rfl (Ok.o rfl (Ok.d ?_))))))
 unfold PF
 congr 1
 refine Ro λi hi=>?_
 have e:∀i:Nat,Ze s i=((on s i:Nat):Int):=λi=>HS s i
 show (bif i==31 then _ else bif i==0 then _ else Ze s i)=_
 unfold clF
 rw[e 31,e 0,e i,(uT ⟨on s 0,UA s 0⟩).1,(uT ⟨on s 31,UA s 31⟩).2]
 by_cases h0:i=0
 ·subst h0;rfl
 grind
def Iv(y:Y6):Prop:=UU y.fT.ZC/\UU y.fT.Qv/\UU y.Qr.ZC/\UU y.Qr.Qv/\UU y.fu
theorem Qzc:UU ⟨121665,0,0,0,0⟩:=by unfold UU;decide
theorem Qeg:fN ⟨121665,0,0,0,0⟩=121665:=by decide +kernel
theorem SR(y:Y6)(hy:Iv y):Qz (Qz1 y) (λr=>(UU r.1/\UU r.2.1/\UU r.2.2.1/\UU r.2.2.2)/\
  (∀k:Nat->Nat->Nat×Nat,Td 121665 (fN y.fT.ZC) (fN y.fT.Qv) k=k (fN r.1) (fN r.2.1))/\
  ∀k:Nat->Nat->Nat×Nat,Tm (fN y.fu) (fN y.fT.ZC) (fN y.fT.Qv) (fN y.Qr.ZC) (fN y.Qr.Qv) k=k (fN r.2.2.1) (fN r.2.2.2)):=by
 obtain⟨h1,h2,h3,h4,h5⟩:=hy
 show Ok (tX y) _
 unfold tX
 refine Ok.c (Lp _ _ h1 h2) λp hp=>Ok.c (DF _ _ h1 h2) λm hm=>Ok.c (N2 _ _ hp.1 hp.1) λs hs=>Ok.c (N2 _ _ hm.1 hm.1) λt ht=>Ok.c (DF _ _ hs.1 ht.1) λe he=>?_
 refine Ok.c (DF _ _ h3 h4) λf0 hf0=>Ok.c (N2 _ _ hf0.1 hp.1) λf hf=>Ok.c (Lp _ _ h3 h4) λg0 hg0=>Ok.c (N2 _ _ hg0.1 hm.1) λg hg=>?_
 refine Ok.c (N2 _ _ hs.1 ht.1) λx hx=>Ok.c (N2 _ _ he.1 Qzc) λc hc=>Ok.c (Lp _ _ hs.1 hc.1) λd hd=>Ok.c (N2 _ _ he.1 hd.1) λz hz=>?_
 refine Ok.c (Lp _ _ hf.1 hg.1) λa ha=>Ok.c (DF _ _ hf.1 hg.1) λb hb=>Ok.c (N2 _ _ ha.1 ha.1) λa2 ha2=>Ok.c (N2 _ _ hb.1 hb.1) λb2 hb2=>Ok.c (N2 _ _ h5 hb2.1) λw hw=>Ok.d ⟨(by grind),λk=>?_,λk=>?_⟩
 ·simp only[Td,force_eq]
  simp_all [Qeg]
 ·simp only[Tm,force_eq]
  grind
theorem vX{s:za}(hs:s.size=32){k:Nat}(hk:k < 255):(cC s (k:Int)).run=some (KY s / 2 ^ k % 2==1):=by
 have hb:=PT (on s) (UA s) (n:=32) (k:=k) (by omega)
 have h:Ok (cC s (k:Int)) (λr=>r=(KY s / 2 ^ k % 2==1)):=by
  unfold cC
  rw[td8 k (by omega),tm8,HS,Fe ⟨on s (k / 8),UA _ _⟩ ⟨k % 8,Nat.mod_lt _ (by decide)⟩]
  grind [Ok.k,Ok.d,Nat.mod_two_eq_zero_or_one,on,KY]
 obtain⟨r,h1,h2⟩:=h
 rw[h1,h2]
theorem VG(u:Q6)(y:Y6)(s:za)(b:Bool)(hy:Iv y):∃r,(Nu u y s b).run=some r/\Iv r/\r.fu=y.fu/\∀l:List Bool,
  HW 121665 (fN y.fu) (b :: l) (fN y.fT.ZC) (fN y.fT.Qv) (fN y.Qr.ZC) (fN y.Qr.Qv)=HW 121665 (fN y.fu) l (fN r.fT.ZC) (fN r.fT.Qv) (fN r.Qr.ZC) (fN r.Qr.Qv):=by
 obtain⟨h1,h2,h3,h4,h5⟩:=hy
 have h:Ok (Nu u y s b) (λr=>Iv r/\r.fu=y.fu/\∀l:List Bool,
   HW 121665 (fN y.fu) (b :: l) (fN y.fT.ZC) (fN y.fT.Qv) (fN y.Qr.ZC) (fN y.Qr.Qv)=HW 121665 (fN y.fu) l (fN r.fT.ZC) (fN r.fT.Qv) (fN r.Qr.ZC) (fN r.Qr.Qv)):=by
  unfold Nu
  cases b with
  | true=>
   refine Ok.b (R:=λe=>e=(y.Qr.ZC,y.Qr.Qv,y.fT.ZC,y.fT.Qv)) (Ok.t rfl (Ok.d rfl)) λe he=>?_
   subst he
   refine Ok.c (SR ⟨⟨y.Qr.ZC,y.Qr.Qv⟩,⟨y.fT.ZC,y.fT.Qv⟩,y.fu⟩ ⟨h3,h4,h1,h2,h5⟩) λr hr=>Ok.t rfl (Ok.d ⟨⟨hr.1.2.2.1,hr.1.2.2.2,hr.1.1,hr.1.2.1,h5⟩,rfl,λl=>?_⟩)
   show (bif true then _ else _)=_
   grind
  | false=>
   refine Ok.b (R:=λe=>e=(y.fT.ZC,y.fT.Qv,y.Qr.ZC,y.Qr.Qv)) (Ok.f rfl (Ok.d rfl)) λe he=>?_
   subst he
   refine Ok.c (SR ⟨⟨y.fT.ZC,y.fT.Qv⟩,⟨y.Qr.ZC,y.Qr.Qv⟩,y.fu⟩ ⟨h1,h2,h3,h4,h5⟩) λr hr=>Ok.f rfl (Ok.d ⟨⟨hr.1.1,hr.1.2.1,hr.1.2.2.1,hr.1.2.2.2,h5⟩,rfl,λl=>?_⟩)
   show (bif false then _ else _)=_
   grind
 obtain⟨r,e,h⟩:=h
 grind
theorem nZ(u:Q6)(s:za)(y:Y6):Kd u s (y,((0:Nat):Int) - 1)=some (.inr y):=by
 unfold Kd
 grind
theorem Og(N:Nat):Crv.bits N 0=[]:=rfl
theorem On(N n:Nat):Crv.bits N (n+1)=(N / 2 ^ n % 2==1) :: Crv.bits N n:=rfl
theorem GB(c u x y z w:Nat):HW c u [] x y z w=(x,y):=rfl
theorem iJ{f:Y6×Int->Option ((Y6×Int)⊕Y6)}{N:Nat}(h0:∀y,f (y,((0:Nat):Int) - 1)=some (.inr y))
  (h1:∀n y,n < 255->Iv y->∃r,f (y,((n+1:Nat):Int) - 1)=some (.inl (r,(n:Int) - 1))/\Iv r/\r.fu=y.fu/\∀l:List Bool,
   HW 121665 (fN y.fu) ((N / 2 ^ n % 2==1) :: l) (fN y.fT.ZC) (fN y.fT.Qv) (fN y.Qr.ZC) (fN y.Qr.Qv)=HW 121665 (fN y.fu) l (fN r.fT.ZC) (fN r.fT.Qv) (fN r.Qr.ZC) (fN r.Qr.Qv)) (n:Nat) :
  ∀(m:Nat) (y:Y6),n<=255->n < m->Iv y->∃r,X7 f m (y,(n:Int) - 1)=some r/\Iv r/\
   HW 121665 (fN y.fu) (Crv.bits N n) (fN y.fT.ZC) (fN y.fT.Qv) (fN y.Qr.ZC) (fN y.Qr.Qv)=(fN r.fT.ZC,fN r.fT.Qv):=by
 induction n with
 | zero=>
  intro m y _ hm hy
  obtain⟨m,rfl⟩:=Nat.exists_eq_succ_of_ne_zero (show m≠0 by omega)
  grind [Og,GB,Nat.succ_eq_add_one,T0]
 | succ n ih=>
  intro m y hn hm hy
  obtain⟨m,rfl⟩:=Nat.exists_eq_succ_of_ne_zero (show m≠0 by omega)
  grind [Nat.succ_eq_add_one,T0,On]
theorem eO(u:Q6){s:za}{n:Nat}{y r:Y6}{b:Bool}(h0:(cC s (n:Int)).run=some b)(h1:(Nu u y s b).run=some r)(hn:n < 255):Kd u s (y,((n+1:Nat):Int) - 1)=some (.inl (r,(n:Int) - 1)):=by
 rw[show ((n+1:Nat):Int) - 1=(n:Int) by omega]
 unfold Kd
 simp only[h0,h1,show decide ((0:Int)<=(n:Int))=true by simp,cond_true]
 grind [Z3]
theorem iY(u:Q6){s:za}(hs:s.size=32)(n:Nat):∀(m:Nat) (y:Y6),n<=255->n < m->Iv y->∃r,X7 (Kd u s) m (y,(n:Int) - 1)=some r/\Iv r/\
  HW 121665 (fN y.fu) (Crv.bits (KY s) n) (fN y.fT.ZC) (fN y.fT.Qv) (fN y.Qr.ZC) (fN y.Qr.Qv)=(fN r.fT.ZC,fN r.fT.Qv):=
 iJ (nZ u s) (λn y hn hy=>by
  obtain⟨r,h1,h2,h3,h4⟩:=VG u y s (KY s / 2 ^ n % 2==1) hy
  exact⟨r,eO u (vX hs hn) h1 hn,h2,h3,h4⟩) n
def xN(n u:Nat):Nat:=(HW 121665 (u % nP) (Crv.bits n 255) 1 0 (u % nP) 1).1 * CA (HW 121665 (u % nP) (Crv.bits n 255) 1 0 (u % nP) 1).2 % nP
def xS(k p:za):za:=GR (xN (KY (PF k)) (KY p % 2 ^ 255))
theorem O6(k p:za):(xS k p).size=32:=W4 _
section
attribute [local irreducible] xS
theorem TH:UU ⟨0,0,0,0,0⟩:=by unfold UU;decide
theorem mP:fN ⟨0,0,0,0,0⟩=0:=by decide +kernel
theorem bS(N:Nat):fN (Am N 255)=N % 2 ^ 255 % nP:=by
 unfold fN
 rw[(Bh N).2]
 refine(GL rfl).trans ?_
 rfl
theorem IC(k p:za)(hk:k.size=32)(hp:p.size=32):Qz (Lj k p) (λr=>r=xS k p):=by
 unfold Lj
 refine Qz.fn ?_
 unfold jP
 refine Ok.c (aJ p hp) λu hu=>Ok.c (CJ k hk) λc hc=>Ok.c (R:=λ_=>True) ⟨(),rfl,trivial⟩ λ_ _=>Ok.g ?_
 subst hu;subst hc
 have hl:=(Bh (KY p)).1
 obtain⟨r,h1,h2,h3⟩:=iY (Am (KY p) 255) (Nn k) 255 ZN ⟨⟨⟨1,0,0,0,0⟩,⟨0,0,0,0,0⟩⟩,⟨Am (KY p) 255,⟨1,0,0,0,0⟩⟩,Am (KY p) 255⟩ (by decide) (by unfold ZN;decide) ⟨Le,TH,hl,Le,hl⟩
 refine Ok.AB (r:=r) h1 ?_
 refine Ok.c (bW _ h2.2.1) λd hd=>Ok.c (N2 _ _ h2.1 hd.1) λt ht=>Ok.c (bH _ ht.1) λo ho=>Ok.d ?_
 simp_all [qL,mP,bS,xS,xN]
def YF:za:=strOfNums (X9 (U5 (λ_=>0) 0 9))
theorem JO:YF.size=32:=W4 _
theorem JI(k:za):Qz (s67 k) (λr=>r=if k.size=32 then (xS k YF,0) else (zd,2)):=by
 unfold s67
 refine Qz.fn ?_
 unfold g67
 refine Ok.e (λh=>Ok.d ?_) λh=>?_
 ·grind
 ·have h:(k.size:Int)=32:=by simpa using h
  have hk:k.size=32:=by omega
  refine Ok.o rfl (Ok.o rfl (Ok.o rfl (Ok.o rfl (Ok.c (IC k YF hk JO) λr hr=>Ok.d ?_))))
  grind
theorem FA{f:Nat->Nat}(hf:∀i,f i < 256){i:Nat}(hi:i < 32):Ze (strOfNums (X9 λj=>((f j:Nat):Int))) i=((f i:Nat):Int):=by
 show QZ _ (i:Int)=_
 rw[HS,sD hf hi]
theorem Oy{n:Nat}(h:n < 2 ^ 255):(∀i,i < 32->Ze (GR n) i=0)↔n=0:=by
 have hf:∀i,E0 8 n 255 i < 256:=λi=>Bm 8 n 255 i
 constructor
 ·intro hz
  have hl:∀i,i < 32->E0 8 n 255 i=0:=λi hi=>by
   simp_all [FA,GR]
  have key:∀j,j<=32->n % 256 ^ j=0:=λj=>by
   induction j with
   | zero=>grind
   | succ j ih=>
    intro hj
    have h1:=ih (by omega)
    have h2:=hl j (by omega)
    simp_all [Nat.mod_eq_of_lt,Nat.pow_mul,Nat.pow_succ,Nat.mod_mul,E0]
  have:=key 32 (zI _)
  grind
 ·intro hz i hi
  subst hz
  unfold GR
  rw[FA (by grind) hi]
  grind [Nat.zero_mod,Nat.zero_div,E0]
theorem CY(k p:za)(hk:k.size=32)(hp:p.size=32):Qz (nA k p) (λr=>r=if xN (KY (PF k)) (KY p % 2 ^ 255)=0 then (zd,2) else (xS k p,0)):=by
 unfold nA
 refine Qz.fn ?_
 unfold Qym
 refine Ok.n (R:=λc=>c=false) (Ok.f (by rw[hk];rfl) (Ok.d (by rw[hp];rfl))) λc hc=>?_
 subst hc
 refine Ok.f rfl (Ok.c (IC k p hk hp) λr hr=>?_)
 subst hr
 refine Ok.fact (yA (O6 k p)) (Ok.o rfl (Ok.o (r:=()) (by show (bif _ then _ else _)=_;rw[J3,O6];rfl) (Ok.o rfl ?_)))
 have hlt:xN (KY (PF k)) (KY p % 2 ^ 255) < 2 ^ 255:=Nat.lt_trans (Nat.mod_lt _ (by decide +kernel)) (by decide +kernel:nP < 2 ^ 255)
 have hz:=Oy hlt
 have ez:∀i,Ze (xS k p) i=Ze (GR (xN (KY (PF k)) (KY p % 2 ^ 255))) i:=λi=>by unfold xS;rfl
 refine Ok.e (λh=>Ok.d ?_) λh=>Ok.d ?_
 ·have h:([0,1,2,3,4,5,6,7,8,9,10,11,12,13,14,15,16,17,18,19,20,21,22,23,24,25,26,27,28,29,30,31]:List Nat).all (λi=>Ze (xS k p) i==0)=true:=h
  rw[if_pos (hz.1 λi hi=>?_)]
  have:=zG.1 h i (by simp;omega)
  grind
 ·have h:([0,1,2,3,4,5,6,7,8,9,10,11,12,13,14,15,16,17,18,19,20,21,22,23,24,25,26,27,28,29,30,31]:List Nat).all (λi=>Ze (xS k p) i==0)=false:=h
  refine(if_neg λh0=>?_).symm
  simp_all
end
def vF(f:Nat->Int):Nat->Int
 | 0=>0
 | n+1=>vF f n+f n * 65536 ^ n
theorem M7(f:Nat->Int)(n:Nat):vF f (n+1)=vF f n+f n * 65536 ^ n:=rfl
theorem Ks(n:Nat):(0:Int) < 65536 ^ n:=Int.pow_pos (by decide)
theorem Lk(n:Nat):(65536:Int) ^ (n+1)=65536 * 65536 ^ n:=by grind
theorem T9{f g:Nat->Int}:∀{n:Nat},(∀i,i < n->f i=g i)->vF f n=vF g n
 | 0,_=>rfl
 | n+1,h=>by rw[M7,M7,T9 λi hi=>h i (by omega),h n (by omega)]
theorem D9(f:Nat->Int)(j:Nat)(x:Int):U5 f j x j=x:=by unfold U5;simp
theorem D0{f:Nat->Int}{j i:Nat}{x:Int}(h:i≠j):U5 f j x i=f i:=by grind [U5]
theorem Kw(f:Nat->Int)(x:Int){j:Nat}:∀{n:Nat},j < n->vF (U5 f j x) n=vF f n+(x - f j) * 65536 ^ j
 | n+1,h=>by
  rw[M7,M7]
  rcases wH j n with h1|h1
  ·rw[Kw f x h1,D0 (by omega)];omega
  ·obtain rfl:j=n:=by omega
   grind [T9,D0,D9,Int.sub_mul,vF,U5]
theorem OA(f g:Nat->Int):∀n,vF (λi=>f i+g i) n=vF f n+vF g n
 | 0=>rfl
 | n+1=>by rw[M7,M7,M7,OA f g n,Int.add_mul];omega
theorem So(c:Int)(f:Nat->Int):∀n,vF (λi=>c * f i) n=c * vF f n
 | 0=>by show (0:Int)=c * 0;omega
 | n+1=>by rw[M7,M7,So c f n,Int.mul_add,Int.mul_assoc]
theorem Jt(f:Nat->Int)(m:Nat):∀n,vF f (m+n)=vF f m+65536 ^ m * vF (λi=>f (m+i)) n
 | 0=>by grind [vF]
 | n+1=>by
  show vF f (m+n)+f (m+n) * 65536 ^ (m+n)=_
  rw[Jt f m n,M7,Int.pow_add,Int.mul_add]
  grind
theorem C3{f:Nat->Int}:∀{n:Nat},(∀i,i < n->0<=f i)->0<=vF f n
 | 0,_=>by show (0:Int)<=0;omega
 | n+1,h=>by
  rw[M7]
  have h1:=C3 λi (hi:i < n)=>h i (by omega)
  have h2:=Int.mul_nonneg (h n (by omega)) (Int.le_of_lt (Ks n))
  omega
theorem IH{f:Nat->Int}:∀{n:Nat},(∀i,i < n->0<=f i/\f i < 65536)->vF f n < 65536 ^ n
 | 0,_=>by show (0:Int) < 1;omega
 | n+1,h=>by
  rw[M7,Lk]
  have h1:=IH λi (hi:i < n)=>h i (by omega)
  have h2:=Int.mul_le_mul_of_nonneg_right (show f n<=65535 by have:=h n (by omega);omega) (Int.le_of_lt (Ks n))
  omega
theorem TS{f:Nat->Int}(n:Nat)(h:∀i,i < n+1->0<=f i):f 0<=vF f (n+1):=by
 have e:=Jt f 1 n
 rw[Nat.add_comm 1 n] at e
 have h2:=Int.mul_nonneg (Int.le_of_lt (Ks 1)) (C3 (f:=λi=>f (1+i)) (n:=n) λi hi=>h _ (by omega))
 grind [vF]
def U8(f:Nat->Int):Prop:=∀i,i < 16->0<=f i/\f i < 65536
def nF(f:Nat->Int):Nat:=md (vF f 16)
theorem w16:(65536:Int) ^ 16=115792089237316195423570985008687907853269984665640564039457584007913129639936:=by decide
theorem Qd9(f:Nat->Int):nF f < nP:=yV _
theorem Uo{f:Nat->Int}(h:U8 f):0<=vF f 16/\vF f 16 < 115792089237316195423570985008687907853269984665640564039457584007913129639936:=⟨C3 λi hi=>(h i hi).1,by rw[<-w16];exact IH h⟩
theorem vat{k m:Nat}(h:k < m):(bif decide (0<=(k:Int))&&decide ((k:Int) < (m:Int)) then some () else none)=some ():=by
 grind
theorem Qwt(f:Nat->Int){k:Nat}(h:k < 16):(Y5 f)[0+(k:Int).toNat]?=some (f k):=by rw[zL,zP,KP,if_pos h]
theorem Ui{ρ:Type}{Q:ρ->Prop}{a a2:Nat}{o i:Operand}{d b k:Nat}{f:Nat->Int}{K:Int->TT ρ}(h:k < 16)(hk:Ok (K (f k)) Q):Ok (.Qy a (KO o i d b f (k:Int)) λ_=>.row a2 Q5 (Y5 f) (0+(k:Int).toNat) true K) Q:=
 Ok.o (r:=()) (vat (m:=16) h) (Ok.r rfl (Qwt f h) hk)
theorem car{c x:Int}(h0:0<=c+x)(h1:c+x < 9223372036854775808):Q0 (c+x)=c+x/\Int.tmod (Q0 (c+x)) 65536=(c+x) % 65536/\Q0 (Int.tdiv (Q0 (c+x)) 65536)=(c+x) / 65536:=by
 have e:=Z3 (n:=c+x) (by omega) (by omega)
 have e1:Int.tmod (c+x) 65536=(c+x) % 65536:=(by grind)
 have e2:Int.tdiv (c+x) 65536=(c+x) / 65536:=(by grind)
 rw[e,e1,e2]
 exact⟨rfl,rfl,Z3 (by omega) (by omega)⟩
def L1(f:Nat->Int)(c0 B:Int)(k:Nat)(h:Nat->Int)(c:Int):Prop:=(∀i,i < k->0<=h i/\h i < 65536)/\(∀i,k<=i->h i=f i)/\vF h k+c * 65536 ^ k=vF f k+c0/\0<=c/\c<=B
theorem Nb(f:Nat->Int){c0 B:Int}(h:0<=c0/\c0<=B):L1 f c0 B 0 f c0:=⟨λi hi=>by omega,λ_ _=>rfl,by grind,h.1,h.2⟩
theorem MD{f:Nat->Int}{c0 B:Int}{k:Nat}{h:Nat->Int}{c:Int}(H:L1 f c0 B k h c)(hf:0<=f k/\f k<=B)(hB:1<=B):L1 f c0 B (k+1) (U5 h k ((c+f k) % 65536)) ((c+f k) / 65536):=by
 obtain⟨h1,h2,h3,h4,h5⟩:=H
 refine⟨λi hi=>?_,λi hi=>?_,?_,by omega,by omega⟩
 ·grind [D9,D0]
 ·grind [D0]
 ·have ec:vF (U5 h k ((c+f k) % 65536)) k=vF h k:=T9 (by grind [D0])
  grind [M7,D9,Lk,Int.add_mul]
def RS:Nat->(Nat->Int)->Prop
 | 0,f=>∀i,i < 16->0<=f i/\f i<=4503599627370496
 | 1,f=>(∀i,i < 16->0<=f i/\f i<=576460752303423488)/\vF f 16<=115792089237316195423570985008687907853269984665640564039458160468665433063424
 | 2,f=>(∀i,i < 16->0<=f i/\f i<=576460752303423488)/\vF f 16 < 115792089237316195423570985008687907853269984665640564039457584007913129639974
 | _,f=>U8 f
theorem Qhr{r:Nat}{f:Nat->Int}(h:RS r f):∀i,i < 16->0<=f i/\f i<=576460752303423488:=λi hi=>by
 match r,h with
 | 0,h=>have:=h i hi;omega
 | 1,h=>exact h.1 i hi
 | 2,h=>exact h.1 i hi
 | n+3,h=>have:0<=f i/\f i < 65536:=h i hi;omega
theorem oJ{r:Nat}{f h:Nat->Int}{c:Int}(hf:RS r f)(H:L1 f 0 576460752303423488 16 h c):RS (r+1) (U5 h 0 (h 0+38 * c))/\md (vF (U5 h 0 (h 0+38 * c)) 16)=md (vF f 16)/\h 0+38 * c < 9223372036854775808/\0<=h 0+38 * c:=by
 obtain⟨h1,h2,h3,h4,h5⟩:=H
 have hl:U8 h:=h1
 have hv:=Uo hl
 have h0:=h1 0 (by decide)
 rw[w16] at h3
 have e:vF (U5 h 0 (h 0+38 * c)) 16=vF h 16+38 * c:=by
  grind [Kw,vF]
 have em:md (vF (U5 h 0 (h 0+38 * c)) 16)=md (vF f 16):=by
  rw[e,<-HY _ (2 * c)]
  grind
 have hb:∀C:Int,65536<=C->h 0+38 * c<=C->∀i,i < 16->0<=U5 h 0 (h 0+38 * c) i/\U5 h 0 (h 0+38 * c) i<=C:=(by grind [D9,D0])
 match r,hf with
 | 0,hf=>
  have c1:c<=4503599627370496 * 2:=by
   have hu:∀n,n<=16->vF f n<=4503599627370496 * (2 * 65536 ^ n):=λn=>by
    induction n with
    | zero=>intro _;show (0:Int)<=_;omega
    | succ n ih=>
     intro hn
     have:=Int.mul_le_mul_of_nonneg_right (hf n (by omega)).2 (Int.le_of_lt (Ks n))
     grind [M7,Lk,Ks]
   grind
  exact⟨⟨hb _ (by decide) (by omega),by rw[e];omega⟩,em,by omega,by omega⟩
 | 1,hf=>
  have c1:c<=1:=by have:=hf.2;omega
  exact⟨⟨hb _ (by decide) (by omega),by grind⟩,em,by omega,by omega⟩
 | 2,hf=>
  have c1:c<=1:=by have:=hf.2;omega
  have hf1:=TS 15 λi hi=>(h1 i hi).1
  refine⟨λi hi=>?_,em,by omega,by omega⟩
  by_cases ei:i=0
  ·subst ei
   rw[D9]
   have:=hf.2
   grind
  grind [D0]
 | n+3,hf=>
  have hfv:=Uo hf
  have c1:c=0:=by omega
  refine⟨λi hi=>?_,em,by omega,by omega⟩
  grind [D9,D0]
theorem Qw2{p q:Prop}[Decidable p][Decidable q](h:p↔q)(x y:Int):(if p then x else y)=if q then x else y:=by
 grind
def lg(l:List Int)(i:Nat):Int:=l.getD i 0
theorem Wb{l:List Int}{k:Nat}(h:k < l.length):l[k]?=some (lg l k):=by grind [List.getElem?_eq_getElem,lg]
theorem LD{l:List Int}{k:Nat}(h:l.length<=k):lg l k=0:=by grind [List.getElem?_eq_none,lg]
theorem yQ(l:List Int)(hn:16<=l.length/\l.length<=31)(hl:∀i,0<=lg l i/\lg l i<=70368744177664):Qz (Ch l) (λr=>U8 r/\nF r=md (vF (lg l) l.length)):=by
 unfold Ch
 refine Qz.fn ?_
 unfold Qjm
 refine Ok.o rfl (Ok.o rfl (Ok.b (R:=λe=>∀i,i < 16->e i=lg l i+38 * lg l (16+i)) ?_ λe he=>?_))
 ·refine Ok.s l.length (by omega) (λk y=>(∀i,i < 16->y.1 i=(if i < k then lg l i else 0)+38 * (if 16+i < k then lg l (16+i) else 0))/\y.2=(k:Int)) (by grind) (λk y hy hk=>?_) λy hy=>?_
  ·obtain⟨f,i⟩:=y
   obtain⟨h1,rfl⟩:(∀i,i < 16->f i=(if i < k then lg l i else 0)+38 * (if 16+i < k then lg l (16+i) else 0))/\i=(k:Int):=hy
   refine Ok.t (by grind [YN,decide_eq_true]) (Ok.e (λhc=>?_) λhc=>?_)
   ·have hc:(k:Int) < 16:=by simpa using hc
    have hk16:k < 16:=by omega
    refine Ui hk16 (Ok.r (by simp) (by rw[zL];exact Wb hk) (Ui hk16 (Ok.re (Ok.d ⟨λj hj=>?_,Z8 hk (by omega)⟩))))
    have hlk:=hl k
    have hfk:=h1 k hk16
    rw[if_neg (by omega),if_neg (by omega)] at hfk
    rw[zL,zP]
    show U5 f k (Q0 (f k+lg l k)) j=_
    rw[hfk,Z3 (by omega) (by omega)]
    by_cases e:j=k
    ·subst e;rw[D9,if_pos (by omega),if_neg (by omega)];omega
    ·rw[D0 e,h1 j hj]
     grind
   ·have hc:16<=(k:Int):=by simpa using hc
    have e16:Q0 ((k:Int) - 16)=((k - 16:Nat):Int):=by grind [Z3]
    have hk16:k - 16 < 16:=by omega
    simp only[e16]
    refine Ui hk16 (Ok.r (by simp) (by rw[zL];exact Wb hk) (Ui hk16 (Ok.re (Ok.d ⟨λj hj=>?_,Z8 hk (by omega)⟩))))
    have hlk:=hl k
    have hlk2:=hl (k - 16)
    have hfk:=h1 (k - 16) hk16
    rw[if_pos (by omega),if_neg (by omega)] at hfk
    rw[zL,zP]
    show U5 f (k - 16) (Q0 (f (k - 16)+Q0 ((38:Int) * lg l k))) j=_
    rw[hfk,Z3 (n:=38 * lg l k) (by omega) (by omega),Z3 (by omega) (by omega)]
    by_cases e:j=k - 16
    ·subst e;rw[D9,if_pos (by omega),if_pos (by omega),show 16+(k - 16)=k by omega];omega
    ·rw[D0 e,h1 j hj]
     grind
  ·obtain⟨f,i⟩:=y
   obtain⟨h1,rfl⟩:(∀i,i < 16->f i=(if i < l.length then lg l i else 0)+38 * (if 16+i < l.length then lg l (16+i) else 0))/\i=((l.length:Nat):Int):=hy
   refine Ok.f (by grind [YN,decide_eq_false]) (Ok.d λi hi=>?_)
   show f i=_
   rw[h1 i hi,if_pos (by omega)]
   by_cases e:16+i < l.length
   ·rw[if_pos e]
   simp_all [if_neg,LD]
 ·have hv:md (vF e 16)=md (vF (lg l) l.length):=by
   have e1:vF e 16=vF (lg l) 16+38 * vF (λi=>lg l (16+i)) 16:=by
    rw[<-So,<-OA]
    exact T9 he
   have e2:vF (lg l) l.length=vF (lg l) 32:=by
    have:=Jt (lg l) l.length (32 - l.length)
    rw[show l.length+(32 - l.length)=32 by omega] at this
    have z:∀n,vF (λi=>lg l (l.length+i)) n=0:=λn=>by
     induction n with
     | zero=>rfl
     | succ n ih=>grind [M7,LD]
    grind
   have e3:vF (lg l) 32=vF (lg l) 16+65536 ^ 16 * vF (λi=>lg l (16+i)) 16:=Jt (lg l) 16 16
   rw[e2,e3,w16,e1,<-HY _ (2 * vF (λi=>lg l (16+i)) 16)]
   congr 1;omega
  have h0:RS 0 e:=λi hi=>by
   grind
  refine Ok.b (R:=λr=>U8 r/\md (vF r 16)=md (vF e 16)) ?_ λr hr=>Ok.o rfl (Ok.o rfl (Ok.d ⟨hr.1,hr.2.trans hv⟩))
  refine Ok.s 3 (by decide) (λr y=>(RS r y.1/\md (vF y.1 16)=md (vF e 16))/\y.2=(r:Int)) ⟨⟨h0,rfl⟩,rfl⟩ (λr y hy hr=>?_) λy hy=>?_
  ·obtain⟨f,i⟩:=y
   obtain⟨⟨h1,h2⟩,rfl⟩:(RS r f/\md (vF f 16)=md (vF e 16))/\i=(r:Int):=hy
   have hle:=Qhr h1
   refine Ok.t (by grind) (Ok.b (R:=λq=>L1 f 0 576460752303423488 16 q.1 q.2) ?_ λq hq=>?_)
   ·refine Ok.s 16 (by decide) (λk y=>L1 f 0 576460752303423488 k y.1 y.2.1/\y.2.2=(k:Int)) ⟨Nb f ⟨by decide,by decide⟩,rfl⟩ (λk y hy hk=>?_) λy hy=>?_
    ·obtain⟨h,c,i⟩:=y
     obtain⟨H,rfl⟩:L1 f 0 576460752303423488 k h c/\i=(k:Int):=hy
     have e1:=H.2.1 k (zI _)
     have hc:=H.2.2.2
     have hfk:=hle k hk
     refine Ok.t (zR (show (k:Int) < 16 by omega)) (Ui hk (Ui hk (Ok.re (Ok.d ⟨?_,Z8 hk (by decide)⟩))))
     obtain⟨c1,c2,c3⟩:=car (c:=c) (x:=h k) (by rw[e1];omega) (by rw[e1];omega)
     show L1 f 0 576460752303423488 (k+1) (U5 h (0+(k:Int).toNat) (Int.tmod (Q0 (c+h k)) 65536)) (Q0 (Int.tdiv (Q0 (c+h k)) 65536))
     rw[c2,c3,e1,zL,zP]
     exact MD H hfk (by decide)
    ·obtain⟨h,c,i⟩:=y
     obtain⟨H,rfl⟩:L1 f 0 576460752303423488 16 h c/\i=((16:Nat):Int):=hy
     exact Ok.f rfl (Ok.d H)
   ·obtain⟨k1,k2,k3,k4⟩:=oJ h1 hq
    obtain⟨h,c⟩:=q
    have hc:=hq.2.2.2
    refine Ok.o rfl (Ok.r rfl (x:=h 0) rfl (Ok.o rfl (Ok.r rfl (x:=h 0) rfl (Ok.re (Ok.d ⟨?_,Z8 hr (by decide)⟩)))))
    show RS (r+1) (U5 h 0 (Q0 (h 0+Q0 ((38:Int) * c))))/\md (vF (U5 h 0 (Q0 (h 0+Q0 ((38:Int) * c)))) 16)=md (vF e 16)
    change 0<=c/\c<=576460752303423488 at hc
    change h 0+38 * c < 9223372036854775808 at k3
    change 0<=h 0+38 * c at k4
    have hh:0<=h 0:=(hq.1 0 (by decide)).1
    rw[Z3 (n:=38 * c) (by omega) (by omega),Z3 (n:=h 0+38 * c) (by omega) (by omega)]
    exact⟨k1,k2.trans h2⟩
  ·obtain⟨f,i⟩:=y
   obtain⟨⟨h1,h2⟩,rfl⟩:(RS 3 f/\md (vF f 16)=md (vF e 16))/\i=((3:Nat):Int):=hy
   exact Ok.f rfl (Ok.d ⟨h1,h2⟩)
theorem TP(f g:Nat->Int):∀n,vF (λi=>f i - g i) n=vF f n - vF g n
 | 0=>rfl
 | n+1=>by rw[M7,M7,M7,TP f g n,Int.sub_mul];omega
theorem OX:∀n,vF (λ_=>0) n=0
 | 0=>rfl
 | n+1=>by rw[M7,OX n,Int.zero_mul];rfl
theorem Al{l:List Int}{j:Nat}{x:Int}(h:j < l.length):lg (l.set j x)=U5 (lg l) j x:=by
 funext i
 unfold lg U5
 grind
theorem jJ(n i:Nat):lg (List.replicate n 0) i=0:=by
 grind [lg]
theorem GU(e:List Int)(h:e.length=16)(hl:∀i,i < 16->0<=lg e i/\lg e i<=70368744177664):Qz (Ch (e.take 16)) (λr=>U8 r/\nF r=md (vF (lg e) 16)):=by
 grind [List.take_of_length_le,yQ,LD]
theorem Gp(a b:Nat->Int)(ha:U8 a)(hb:U8 b):Qz (RI a b) (λr=>U8 r/\nF r=(nF a+nF b) % nP):=by
 unfold RI
 refine Qz.fn ?_
 unfold Qux
 refine Ok.o rfl (Ok.o rfl (Ok.o rfl (Ok.o rfl (Ok.b (R:=λe=>e.length=16/\∀i,i < 16->lg e i=a i+b i) ?_ λe he=>?_))))
 ·refine Ok.s 16 (by decide) (λk y=>(y.1.length=16/\∀i,i < k->lg y.1 i=a i+b i)/\y.2=(k:Int)) (by grind) (λk y hy hk=>?_) λy hy=>?_
  ·obtain⟨l,i⟩:=y
   obtain⟨⟨h1,h2⟩,rfl⟩:(l.length=16/\∀i,i < k->lg l i=a i+b i)/\i=(k:Int):=hy
   have hak:=ha k hk;have hbk:=hb k hk
   refine Ok.t (by grind) (Ui hk (Ui hk (Ok.k (by simp;omega) (Ok.r rfl (x:=lg l k) (by rw[zL,zP];grind [Wb]) (Ok.re (Ok.d ⟨⟨?_,λj hj=>?_⟩,Z8 hk (by decide)⟩))))))
   ·grind
   ·show lg (l.set (0+(k:Int).toNat) (Q0 (a k+b k))) j=_
    rw[zL,zP,Al (by omega),Z3 (by omega) (by omega)]
    grind [D9,D0]
  ·obtain⟨l,i⟩:=y
   obtain⟨h1,rfl⟩:(l.length=16/\∀i,i < 16->lg l i=a i+b i)/\i=((16:Nat):Int):=hy
   exact Ok.f rfl (Ok.d h1)
 ·refine Ok.v (GU e he.1 λi hi=>?_) λr hr=>Ok.d ⟨hr.1,?_⟩
  ·have:=ha i hi;have:=hb i hi
   grind
  ·have ev:vF (lg e) 16=vF a 16+vF b 16:=by rw[<-OA];exact T9 he.2
   rw[hr.2,ev,jQ];rfl
def dP(i:Nat):Int:=if i=0 then 130996 else 131070
theorem vA:vF dP 16=57896044618658097711785492504343953926634992332820282019728792003956564819949 * 4:=by decide +kernel
theorem Gb(a b:Nat->Int)(ha:U8 a)(hb:U8 b):Qz (RA a b) (λr=>U8 r/\nF r=lY (nF a) (nF b)):=by
 unfold RA
 refine Qz.fn ?_
 unfold Qud
 refine Ok.o rfl (Ok.o rfl (Ok.o rfl (Ok.o rfl (Ok.b (R:=λe=>e.length=16/\∀i,i < 16->lg e i=a i - b i+131070) ?_ λe he=>?_))))
 ·refine Ok.s 16 (by decide) (λk y=>(y.1.length=16/\∀i,i < k->lg y.1 i=a i - b i+131070)/\y.2=(k:Int)) (by grind) (λk y hy hk=>?_) λy hy=>?_
  ·obtain⟨l,i⟩:=y
   obtain⟨⟨h1,h2⟩,rfl⟩:(l.length=16/\∀i,i < k->lg l i=a i - b i+131070)/\i=(k:Int):=hy
   have hak:=ha k hk;have hbk:=hb k hk
   refine Ok.t (by grind) (Ui hk (Ui hk (Ok.k (by simp;omega) (Ok.r rfl (x:=lg l k) (by rw[zL,zP];grind [Wb]) (Ok.re (Ok.d ⟨⟨?_,λj hj=>?_⟩,Z8 hk (by decide)⟩))))))
   ·grind
   ·show lg (l.set (0+(k:Int).toNat) (Q0 (Q0 (a k - b k)+131070))) j=_
    rw[zL,zP,Al (by omega),Z3 (n:=a k - b k) (by omega) (by omega),Z3 (by omega) (by omega)]
    grind [D9,D0]
  ·obtain⟨l,i⟩:=y
   obtain⟨h1,rfl⟩:(l.length=16/\∀i,i < 16->lg l i=a i - b i+131070)/\i=((16:Nat):Int):=hy
   exact Ok.f rfl (Ok.d h1)
 ·obtain⟨h1,h2⟩:=he
  have hx:e[0]?=some (lg e 0):=Wb (by omega)
  have h20:=h2 0 (by decide)
  have ha0:=ha 0 (by decide);have hb0:=hb 0 (by decide)
  have hs:∀i,i < 16->lg (e.set 0 (Q0 (lg e 0 - 74))) i=a i+(dP i - b i):=λi hi=>by
   rw[Al (by omega),Z3 (by omega) (by omega)]
   unfold dP
   by_cases ei:i=0
   ·subst ei;rw[D9,if_pos rfl];omega
   ·rw[D0 ei,if_neg ei,h2 i hi];omega
  refine Ok.r rfl hx (Ok.r rfl hx (Ok.re (Ok.v (GU _ (by grind) λi hi=>?_) λr hr=>Ok.d ⟨hr.1,?_⟩)))
  ·have:=ha i hi;have:=hb i hi
   grind [dP]
  ·have ev:vF (lg (e.set 0 (Q0 (lg e 0 - 74)))) 16=vF a 16 - vF b 16+57896044618658097711785492504343953926634992332820282019728792003956564819949 * 4:=by
    have e1:vF (lg (e.set 0 (Q0 (lg e 0 - 74)))) 16=vF a 16+vF (λi=>dP i - b i) 16:=by rw[<-OA];exact T9 hs
    rw[e1,TP,vA];omega
   rw[hr.2,ev,HY,yB];rfl
theorem JD(a b:Nat->Int)(ha:U8 a)(hb:U8 b):Qz (Kr a b) (λr=>U8 r/\nF r=nF a * nF b % nP):=by
 unfold Kr
 refine Qz.fn ?_
 unfold Que
 let Inv:Nat->Nat->List Int->Prop:=λi k l=>(l.length=31/\∀j,0<=lg l j/\lg l j<=((16 * i+k:Nat):Int) * 4294967296)/\vF (lg l) 31=vF a i * vF b 16+a i * 65536 ^ i * vF b k
 refine Ok.o rfl (Ok.o rfl (Ok.o rfl (Ok.o rfl (Ok.b (R:=λe=>Inv 16 0 e) ?_ λe he=>?_))))
 ·refine Ok.s 16 (by decide) (λi y=>Inv i 0 y.1/\y.2=(i:Int)) ⟨⟨⟨rfl,(by grind [jJ])⟩,?_⟩,rfl⟩ (λi y hy hi=>?_) λy hy=>?_
  ·simp_all [T9,jJ,OX,Int.zero_mul,Int.mul_zero,vF,lg,List.replicate,trans]
  ·obtain⟨l0,i'⟩:=y
   obtain⟨h0,rfl⟩:Inv i 0 l0/\i'=(i:Int):=hy
   refine Ok.t (by grind) (Ok.b (R:=λe=>Inv i 16 e) ?_ λe he=>?_)
   ·refine Ok.s 16 (by decide) (λk y=>Inv i k y.1/\y.2=(k:Int)) ⟨h0,rfl⟩ (λk y hy hk=>?_) λy hy=>?_
    ·obtain⟨l,k'⟩:=y
     obtain⟨⟨⟨h1,h2⟩,h3⟩,rfl⟩:Inv i k l/\k'=(k:Int):=hy
     have eik:Q0 ((i:Int)+(k:Int))=((i+k:Nat):Int):=by grind [Z3]
     have hai:=ha i hi;have hbk:=hb k hk
     have hm:0<=a i * b k/\a i * b k<=65535 * 65535:=⟨Int.mul_nonneg hai.1 hbk.1,Int.mul_le_mul (by omega) (by omega) hbk.1 (by decide)⟩
     have hlk:=h2 (i+k)
     have hx:l[0+(((i+k:Nat):Int)).toNat]?=some (lg l (i+k)):=by rw[zL,zP];exact Wb (by omega)
     refine Ok.t (by grind) ?_
     simp only[eik]
     refine Ok.k (by simp;omega) (Ok.r rfl hx (Ui hi (Ui hk (Ok.k (by simp;omega) (Ok.r rfl hx (Ok.re (Ok.d ⟨?_,Z8 hk (by decide)⟩)))))))
     have hb16:((16 * i+k:Nat):Int)<=256:=by omega
     have ew:Q0 (lg l (i+k)+Q0 (a i * b k))=lg l (i+k)+a i * b k:=by grind [Z3]
     show Inv i (k+1) (l.set (0+(((i+k:Nat):Int)).toNat) (Q0 (lg l (i+k)+Q0 (a i * b k))))
     rw[ew,zL,zP]
     refine⟨⟨by grind,λj=>?_⟩,?_⟩
     ·rw[Al (by omega)]
      grind [D9,D0]
     ·rw[Al (by omega),Kw _ _ (by omega),h3,show vF b (k+1)=vF b k+b k * 65536 ^ k from rfl,Int.pow_add]
      grind
    ·obtain⟨l,k'⟩:=y
     obtain⟨h1,rfl⟩:Inv i 16 l/\k'=((16:Nat):Int):=hy
     exact Ok.f rfl (Ok.d h1)
   ·obtain⟨⟨h1,h2⟩,h3⟩:=he
    refine Ok.d ⟨⟨⟨h1,λj=>?_⟩,?_⟩,Z8 hi (by decide)⟩
    ·grind
    ·show vF (lg e) 31=vF a (i+1) * vF b 16+a (i+1) * 65536 ^ (i+1) * 0
     rw[h3,show vF a (i+1)=vF a i+a i * 65536 ^ i from rfl,Int.mul_zero,Int.add_zero,Int.add_mul]
  ·obtain⟨l,i'⟩:=y
   obtain⟨h0,rfl⟩:Inv 16 0 l/\i'=((16:Nat):Int):=hy
   exact Ok.f rfl (Ok.d h0)
 ·obtain⟨⟨h1,h2⟩,h3⟩:=he
  refine Ok.v (R:=λr=>U8 r/\nF r=md (vF (lg e) 31)) ?_ λr hr=>Ok.d ⟨hr.1,?_⟩
  ·grind [List.take_of_length_le,yQ]
  ·rw[hr.2,h3]
   show md (vF a 16 * vF b 16+a 16 * 65536 ^ 16 * 0)=_
   rw[Int.mul_zero,Int.add_zero,yT];rfl
theorem XI(n:Int)(h:0<=n/\n < 4294967296):Qz (RO n) (λr=>U8 r/\vF r 16=n):=by
 unfold RO
 refine Qz.fn ?_
 unfold Qua
 have e1:Int.tmod n 65536=n % 65536:=(by grind)
 have e2:Q0 (Int.tdiv n 65536)=n / 65536:=by grind [Int.tdiv_eq_ediv_of_nonneg,Z3]
 refine Ok.o rfl (Ok.o rfl (Ok.o rfl (Ok.o rfl (Ok.r rfl (x:=0) rfl (Ok.re (Ok.o rfl (Ok.o rfl (Ok.d ?_))))))))
 show U8 (U5 (U5 (λ_=>0) 0 (Int.tmod n 65536)) 1 (Q0 (Int.tdiv n 65536)))/\vF (U5 (U5 (λ_=>0) 0 (Int.tmod n 65536)) 1 (Q0 (Int.tdiv n 65536))) 16=n
 rw[e1,e2]
 refine⟨λi hi=>?_,?_⟩
 ·grind [D9,D0]
 ·rw[Kw _ _ (by decide),Kw _ _ (by decide),OX]
  show 0+(n % 65536 - 0) * 1+(n / 65536 - 0) * 65536=n
  omega
theorem Qkn:∀i:Fin 255,(nP - 2) / 2 ^ i.val % 2=if i.val=2\/i.val=4 then 0 else 1:=by decide +kernel
theorem sF(a:Nat->Int)(ha:U8 a):Qz (pX a) (λr=>U8 r/\nF r=CA (nF a)):=by
 unfold pX
 refine Qz.fn ?_
 unfold Quk
 refine Ok.o rfl (Ok.o rfl (Ok.c (XI 1 ⟨by decide,by decide⟩) λone h1=>Ok.o rfl (Ok.o rfl (Ok.b (R:=λe=>U8 e/\nF e=CA (nF a)) ?_ λe he=>Ok.o rfl (Ok.o rfl (Ok.d he))))))
 refine Ok.s 255 (by decide) (λk y=>(U8 y.1/\∃n,n=(nP - 2) / 2 ^ (255 - k)/\nF y.1=nF a ^ n % nP)/\y.2=254 - (k:Int)) ⟨⟨h1.1,0,by decide +kernel,?_⟩,rfl⟩ (λk y hy hk=>?_) λy hy=>?_
 ·show md (vF one 16)=_
  rw[h1.2,Nat.pow_zero];decide +kernel
 ·obtain⟨x,i⟩:=y
  obtain⟨⟨hx,n,hn,h2⟩,rfl⟩:(U8 x/\∃n,n=(nP - 2) / 2 ^ (255 - k)/\nF x=nF a ^ n % nP)/\i=254 - (k:Int):=hy
  have hd:(nP - 2) / 2 ^ (255 - (k+1))=2 * n+(nP - 2) / 2 ^ (254 - k) % 2:=by
   rw[hn,show 255 - k=(254 - k)+1 by omega,Nat.pow_succ,<-Nat.div_div_eq_div_mul,show 255 - (k+1)=254 - k by omega,Nat.add_comm,Nat.mod_add_div]
  have hb:=Qkn ⟨254 - k,by omega⟩
  change (nP - 2) / 2 ^ (254 - k) % 2=if 254 - k=2\/254 - k=4 then 0 else 1 at hb
  have ew:Q0 (254 - (k:Int) - 1)=254 - ((k+1:Nat):Int):=by grind [Z3]
  refine Ok.t (by grind) (Ok.o rfl (Ok.o rfl (Ok.c (JD x x hx hx) λq hq=>Ok.o rfl ?_)))
  have hq2:nF q=nF a ^ (2 * n) % nP:=by rw[hq.2,h2,xJ]
  refine Ok.n (R:=λc=>c=!decide (254 - k=2\/254 - k=4)) (Ok.e (λhc=>Ok.d ?_) λhc=>Ok.d ?_) λc hc=>?_
  ·grind
  ·grind
  ·refine Ok.e (λh=>?_) λh=>Ok.d ⟨⟨hq.1,2 * n,?_,hq2⟩,ew⟩
   ·rw[hc] at h
    have h:¬(254 - k=2\/254 - k=4):=by simpa using h
    rw[if_neg h] at hb
    refine Ok.o rfl (Ok.o rfl (Ok.c (JD q a hq.1 ha) λr hr=>Ok.o rfl (Ok.d ⟨⟨hr.1,2 * n+1,?_,?_⟩,ew⟩)))
    ·rw[hd,hb]
    grind [Gl]
   grind
 ·obtain⟨x,i⟩:=y
  obtain⟨⟨hx,n,hn,h2⟩,rfl⟩:(U8 x/\∃n,n=(nP - 2) / 2 ^ (255 - 255)/\nF x=nF a ^ n % nP)/\i=254 - ((255:Nat):Int):=hy
  refine Ok.f rfl (Ok.d ⟨hx,?_⟩)
  show nF x=_
  unfold CA
  rw[qY _ _ _ _ (by decide +kernel),Nat.one_mul,h2,hn,Nat.sub_self,Nat.pow_zero,Nat.div_one]
theorem Bx(f:Nat->Nat):∀n,((mF f (2 * n):Nat):Int)=vF (λi=>((f (2 * i):Nat):Int)+256 * ((f (2 * i+1):Nat):Int)) n
 | 0=>rfl
 | n+1=>by
  have e:mF f (2 * (n+1))=mF f (2 * n)+f (2 * n) * 256 ^ (2 * n)+f (2 * n+1) * 256 ^ (2 * n+1):=rfl
  have p1:(256:Nat) ^ (2 * n)=65536 ^ n:=by rw[Nat.pow_mul]
  rw[e,M7,<-Bx f n,Nat.pow_succ,p1]
  grind
theorem xO(s:za)(hs:s.size=32):Qz (pI s) (λr=>U8 r/\vF r 16=((KY s % 2 ^ 255:Nat):Int)):=by
 unfold pI
 refine Qz.fn ?_
 unfold Qui
 let g:Nat->Int:=λi=>((on s (2 * i):Nat):Int)+256 * ((on s (2 * i+1):Nat):Int)
 have hg:∀i,0<=g i/\g i < 65536:=(by grind [UA,on])
 refine Ok.o rfl (Ok.o rfl (Ok.b (R:=λe=>∀i,i < 16->e i=g i) ?_ λe he=>?_))
 ·refine Ok.s 16 (by decide) (λk y=>(∀i,i < k->y.1 i=g i)/\y.2=(k:Int)) (by grind) (λk y hy hk=>?_) λy hy=>?_
  ·obtain⟨f,i⟩:=y
   obtain⟨h1,rfl⟩:(∀i,i < k->f i=g i)/\i=(k:Int):=hy
   have e2:Q0 ((2:Int) * (k:Int))=((2 * k:Nat):Int):=by grind [Z3]
   have e3:Q0 (((2 * k:Nat):Int)+1)=((2 * k+1:Nat):Int):=by grind [Z3]
   refine Ok.t (by grind) ?_
   simp only[e2,e3,HS]
   refine Ok.k (by grind) (Ok.k (by grind) (Ui hk (Ok.re (Ok.d ⟨λj hj=>?_,Z8 hk (by decide)⟩))))
   show U5 f (0+(k:Int).toNat) (Q0 (Q0 ((on s (2 * k):Nat):Int)+Q0 ((256:Int) * Q0 ((on s (2 * k+1):Nat):Int)))) j=_
   have:=UA s (2 * k);have:=UA s (2 * k+1)
   rw[zL,zP,Z3 (n:=((on s (2 * k):Nat):Int)) (by omega) (by omega),Z3 (n:=((on s (2 * k+1):Nat):Int)) (by omega) (by omega),Z3 (n:=256 * ((on s (2 * k+1):Nat):Int)) (by omega) (by omega),Z3 (by omega) (by omega)]
   by_cases e:j=k
   ·subst e;rw[D9]
   grind [D0]
  ·obtain⟨f,i⟩:=y
   obtain⟨h1,rfl⟩:(∀i,i < 16->f i=g i)/\i=((16:Nat):Int):=hy
   exact Ok.f rfl (Ok.d h1)
 ·have hl:U8 e:=λi hi=>by grind
  have h15:=hl 15 (by decide)
  have ev:vF e 16=((KY s:Nat):Int):=(T9 he).trans (Bx (on s) 16).symm
  refine Ok.o rfl (Ok.r rfl (x:=e 15) rfl (Ok.o rfl (Ok.r rfl (x:=e 15) rfl (Ok.re (Ok.o rfl (Ok.o rfl (Ok.d ?_)))))))
  have em:Int.tmod (e 15) 32768=e 15 % 32768:=(by grind)
  show U8 (U5 e 15 (Int.tmod (e 15) 32768))/\vF (U5 e 15 (Int.tmod (e 15) 32768)) 16=_
  rw[em]
  have hl2:U8 (U5 e 15 (e 15 % 32768)):=λi hi=>by
   grind [D9,D0]
  refine⟨hl2,?_⟩
  have e15:vF e 16=vF e 15+e 15 * 65536 ^ 15:=rfl
  have hlt:vF e 15 < 65536 ^ 15:=IH λi hi=>hl i (by omega)
  have h0:0<=vF e 15:=C3 (by grind)
  grind [Kw,Int.natCast_emod,KY]
def pd(i:Nat):Int:=if i=15 then 32767 else if i=0 then 65517 else 65535
theorem qW:vF pd 16=57896044618658097711785492504343953926634992332820282019728792003956564819949:=by decide +kernel
theorem qK(i:Nat):0<=pd i/\pd i < 65536:=by grind [pd]
theorem Kg{f g:Nat->Int}(j:Nat):∀{n:Nat},(∀i,j<=i->i < j+n->f i=g i)->vF f (j+n) - vF g (j+n)=vF f j - vF g j
 | 0,_=>rfl
 | n+1,h=>by
  show vF f (j+n)+f (j+n) * 65536 ^ (j+n) - (vF g (j+n)+g (j+n) * 65536 ^ (j+n))=_
  have ih:=Kg (f:=f) (g:=g) j (n:=n) (by grind)
  grind
theorem lex_lt{f g:Nat->Int}{i:Nat}(hf:∀j,j < i->0<=f j/\f j < 65536)(hg:∀j,j < i->0<=g j/\g j < 65536)(h:f i < g i):vF f (i+1) < vF g (i+1):=by
 rw[M7,M7]
 have h1:=IH hf
 have h2:=C3 λj hj=>(hg j hj).1
 have h3:=Int.mul_le_mul_of_nonneg_right (show f i+1<=g i by omega) (Int.le_of_lt (Ks i))
 grind
theorem xF(f:Nat->Int)(hf:U8 f):Qz (rK f) (λr=>r=decide (vF f 16 < 57896044618658097711785492504343953926634992332820282019728792003956564819949)):=by
 unfold rK
 refine Qz.fn ?_
 unfold Qjk
 refine Ok.o rfl (Ok.p (R:=λe=>match e with|.inl b=>b=decide (vF f 16 < 57896044618658097711785492504343953926634992332820282019728792003956564819949)|.inr _=>∀i,1<=i->i < 16->f i=pd i) ?_ (λb hb=>Ok.d hb) λ_ he=>?_)
 ·refine Ok.s 15 (by decide) (λk y=>(∀i,16 - k<=i->i < 16->f i=pd i)/\y=15 - (k:Int)) (by grind) (λk y hy hk=>?_) λy hy=>?_
  ·obtain⟨h1,rfl⟩:=hy
   have e15:(15 - (k:Int))=((15 - k:Nat):Int):=by omega
   have hi:15 - k < 16:=by omega
   have ew:Q0 (((15 - k:Nat):Int) - 1)=15 - ((k+1:Nat):Int):=by grind [Z3]
   rw[e15]
   have hsame:vF f 16 - vF pd 16=vF f (15 - k+1) - vF pd (15 - k+1):=by
    have:=Kg (f:=f) (g:=pd) (15 - k+1) (n:=k) (by grind)
    grind
   refine Ok.t (by grind) (Ok.b (R:=λe=>e=pd (15 - k)) (Ok.e (λhc=>Ok.d ?_) λhc=>Ok.d ?_) λe he=>?_)
   ·have hc:((15 - k:Nat):Int)=15:=by simpa using hc
    unfold pd;grind
   ·have hc:¬((15 - k:Nat):Int)=15:=by simpa using hc
    unfold pd;grind
   ·subst he
    refine Ui hi (Ok.e (λhc=>Ui hi (Ok.d ?_)) λhc=>Ok.d ⟨λi h2 h3=>?_,ew⟩)
    ·have hc:f (15 - k)≠pd (15 - k):=by simpa using hc
     show decide (f (15 - k) < pd (15 - k))=decide (vF f 16 < 57896044618658097711785492504343953926634992332820282019728792003956564819949)
     rw[<-qW]
     rcases Int.lt_or_lt_of_ne hc with h|h
     ·have:=lex_lt (λj hj=>hf j (by omega)) (λj _=>qK j) h
      grind
     ·have:=lex_lt (λj _=>qK j) (λj hj=>hf j (by omega)) h
      grind
    grind
  ·obtain⟨h1,rfl⟩:=hy
   exact Ok.f rfl (by grind [Ok.d])
 ·refine Ok.o rfl (Ok.r rfl (x:=f 0) rfl (Ok.d ?_))
  have hs:vF f 16 - vF pd 16=vF f 1 - vF pd 1:=Kg (f:=f) (g:=pd) 1 (n:=15) (by grind)
  have e1:vF f 1=f 0:=by show 0+f 0 * 65536 ^ 0=f 0;omega
  have e2:vF pd 1=65517:=by decide
  rw[<-qW]
  grind
theorem w15:(65536:Int) ^ 15=1766847064778384329583297500742918515827483896875618958121606201292619776:=by decide
theorem gL{f h:Nat->Int}{c:Int}(hf:U8 f)(hp:57896044618658097711785492504343953926634992332820282019728792003956564819949<=vF f 16)(H:L1 f 19 65536 16 h c) :
  U8 (U5 h 15 (if 0 < c then h 15 - 32768+65536 else h 15 - 32768))/\vF (U5 h 15 (if 0 < c then h 15 - 32768+65536 else h 15 - 32768)) 16=vF f 16 - 57896044618658097711785492504343953926634992332820282019728792003956564819949/\0<=h 15/\h 15 < 65536:=by
 obtain⟨h1,h2,h3,h4,h5⟩:=H
 have hl:U8 h:=h1
 have hv:=Uo hl
 have hfv:=Uo hf
 have h15:=h1 15 (by decide)
 have e15:vF h 16=vF h 15+h 15 * 65536 ^ 15:=rfl
 have hlt:vF h 15 < 65536 ^ 15:=IH λi hi=>hl i (by omega)
 have h0:0<=vF h 15:=C3 (by grind)
 rw[w15] at e15 hlt
 rw[w16] at h3
 refine⟨λi hi=>?_,?_,h15.1,h15.2⟩
 ·grind [D9,D0]
 grind [Kw,w15]
theorem yC{x:Int}(h0:0<=x)(h:x < 57896044618658097711785492504343953926634992332820282019728792003956564819949):((md x:Nat):Int)=x:=by rw[YR];omega
theorem vD{f:Nat->Int}(hf:U8 f){N:Nat}(hN:(N:Int)=vF f 16){i:Nat}(hi:i < 16):f i=((N / 65536 ^ i % 65536:Nat):Int):=by
 have e:=Jt f i (16 - i)
 rw[show i+(16 - i)=16 by omega] at e
 have h1:vF f i < 65536 ^ i:=IH λj hj=>hf j (by omega)
 have h0:0<=vF f i:=C3 λj hj=>(hf j (by omega)).1
 have e2:=Jt (λj=>f (i+j)) 1 (16 - i - 1)
 rw[show 1+(16 - i - 1)=16 - i by omega] at e2
 have e3:vF (λj=>f (i+j)) 1=f i:=by show 0+f (i+0) * 65536 ^ 0=f i;grind
 rw[e3] at e2
 have hfi:=hf i hi
 have d1:(N:Int) / 65536 ^ i=vF (λj=>f (i+j)) (16 - i):=by
  simp_all [Int.add_mul_ediv_left,Int.ne_of_gt,Ks,Int.ediv_eq_zero_of_lt,Int.zero_add]
 grind
theorem iV(g:Nat->Int)(k:Nat):(List.range (2 * k)).map g++[g (2 * k),g (2 * k+1)]=(List.range (2 * (k+1))).map g:=by
 grind [List.range_succ,List.append_assoc]
theorem sG(f:Nat->Int)(hf:U8 f):Qz (pA f) (λr=>r=GR (nF f)):=by
 unfold pA
 refine Qz.fn ?_
 unfold Qum
 refine Ok.o rfl (Ok.b (R:=λe=>U8 e/\vF e 16 < 57896044618658097711785492504343953926634992332820282019728792003956564819949/\nF e=nF f) ?_ λe he=>?_)
 ·refine Ok.lp (λy=>U8 y/\nF y=nF f) (λy=>(vF y 16 / 57896044618658097711785492504343953926634992332820282019728792003956564819949).toNat) ⟨hf,rfl⟩ (by have:=Uo hf;unfold ZN;omega) λy hy=>?_
  obtain⟨h1,h2⟩:=hy
  have hv:=Uo h1
  refine Ok.o rfl (Ok.c (xF y h1) λr hr=>Ok.e (λhc=>?_) λhc=>Ok.d ?_)
  ·have hp:57896044618658097711785492504343953926634992332820282019728792003956564819949<=vF y 16:=by
    grind
   refine Ok.b (R:=λq=>L1 y 19 65536 16 q.1 q.2) ?_ λq hq=>?_
   ·refine Ok.s 16 (by decide) (λk z=>L1 y 19 65536 k z.1 z.2.1/\z.2.2=(k:Int)) ⟨(by grind [Nb]),rfl⟩ (λk z hz hk=>?_) λz hz=>?_
    ·obtain⟨h,c,i⟩:=z
     obtain⟨H,rfl⟩:L1 y 19 65536 k h c/\i=(k:Int):=hz
     have e1:=H.2.1 k (zI _)
     have hc:=H.2.2.2
     have hfk:=h1 k hk
     refine Ok.t (by grind) (Ui hk (Ui hk (Ok.re (Ok.d ⟨?_,Z8 hk (by decide)⟩))))
     obtain⟨c1,c2,c3⟩:=car (c:=c) (x:=h k) (by rw[e1];omega) (by rw[e1];omega)
     show L1 y 19 65536 (k+1) (U5 h (0+(k:Int).toNat) (Int.tmod (Q0 (c+h k)) 65536)) (Q0 (Int.tdiv (Q0 (c+h k)) 65536))
     rw[c2,c3,e1,zL,zP]
     grind [MD]
    ·obtain⟨h,c,i⟩:=z
     obtain⟨H,rfl⟩:L1 y 19 65536 16 h c/\i=((16:Nat):Int):=hz
     exact Ok.f rfl (Ok.d H)
   ·obtain⟨h,c⟩:=q
    obtain⟨t1,t2,t3,t4⟩:=gL h1 hp hq
    dsimp only at t1 t2 t3 t4
    have fin:∀v,v=(if 0 < c then h 15 - 32768+65536 else h 15 - 32768)->Rnd (λy=>U8 y/\nF y=nF f) (λy=>(vF y 16 / 57896044618658097711785492504343953926634992332820282019728792003956564819949).toNat) (vF y 16 / 57896044618658097711785492504343953926634992332820282019728792003956564819949).toNat (λe=>U8 e/\vF e 16 < 57896044618658097711785492504343953926634992332820282019728792003956564819949/\nF e=nF f) (.inl (U5 h 15 v)):=λv hv2=>by
     subst hv2
     refine⟨⟨t1,?_⟩,?_⟩
     ·show md (vF _ 16)=_
      rw[t2,<-h2,show vF y 16 - 57896044618658097711785492504343953926634992332820282019728792003956564819949=vF y 16 - 57896044618658097711785492504343953926634992332820282019728792003956564819949 * 1 by omega,Ad];rfl
     grind
    have ea:Q0 (h 15 - 32768)=h 15 - 32768:=Z3 (by omega) (by omega)
    have upd2:∀a b:Int,U5 (U5 h 15 a) 15 b=U5 h 15 b:=λa b=>funext (by grind [D9,D0])
    refine Ok.o rfl (Ok.r rfl (x:=h 15) rfl (Ok.o rfl (Ok.r rfl (x:=h 15) rfl (Ok.re (Ok.e (λhc=>?_) λhc=>Ok.d ?_)))))
    ·have hc:0 < c:=by simpa using hc
     have x15:(Y5 (U5 h 15 (Q0 (h 15 - 32768))))[15]?=some (h 15 - 32768):=by simp_all [KP,if_pos,D9]
     refine Ok.o rfl (Ok.r rfl x15 (Ok.o rfl (Ok.r rfl x15 (Ok.re (Ok.d ?_)))))
     have:=fin (h 15 - 32768+65536) (by rw[if_pos hc])
     rw[upd2,Z3 (n:=h 15 - 32768+65536) (by omega) (by omega)]
     exact this
    grind
  ·have:decide (vF y 16 < 57896044618658097711785492504343953926634992332820282019728792003956564819949)=true:=by grind
   exact⟨h1,of_decide_eq_true this,h2⟩
 ·obtain⟨h1,h2,h3⟩:=he
  have hM:((nF e:Nat):Int)=vF e 16:=yC (Uo h1).1 h2
  rw[<-h3]
  have hlt:nF e < 2 ^ 255:=(by grind)
  generalize nF e=M at *
  refine Ok.g (Ok.b (R:=λl=>l=X9 λj=>((E0 8 M 255 j:Nat):Int)) ?_ λl hl=>Ok.o rfl (Ok.d (by rw[hl];rfl)))
  refine Ok.s 16 (by decide) (λk y=>y.1=(List.range (2 * k)).map (λj=>((E0 8 M 255 j:Nat):Int))/\y.2=(k:Int)) ⟨rfl,rfl⟩ (λk y hy hk=>?_) λy hy=>?_
  ·obtain⟨l,i⟩:=y
   obtain⟨hl,rfl⟩:l=(List.range (2 * k)).map (λj=>((E0 8 M 255 j:Nat):Int))/\i=(k:Int):=hy
   have hlen:l.length=2 * k:=by rw[hl];simp
   have hd:=vD h1 hM hk
   have hek:=h1 k hk
   refine Ok.t (by grind) (Ui hk (Ui hk (Ok.app (by grind) (Ok.g (Ok.g (Ok.d ⟨?_,Z8 hk (by decide)⟩))))))
   have t1:Qm (Int.tmod (e k) 256)=e k % 256:=by
    rw[Int.tmod_eq_emod_of_nonneg hek.1]
    show IntKind.u8.wrap _=_
    rw[IntKind.wrap_u8];omega
   have t2:Qm (Q0 (Int.tdiv (e k) 256))=e k / 256:=by
    rw[Int.tdiv_eq_ediv_of_nonneg hek.1,Z3 (by omega) (by omega)]
    show IntKind.u8.wrap _=_
    rw[IntKind.wrap_u8];omega
   show l++[Qm (Int.tmod (e k) 256),Qm (Q0 (Int.tdiv (e k) 256))]=_
   rw[t1,t2,hl,<-iV]
   have p8:∀j,(2:Nat) ^ (8 * j)=256 ^ j:=λj=>by rw[Nat.pow_mul]
   have q0:((E0 8 M 255 (2 * k):Nat):Int)=e k % 256:=by
    unfold E0
    rw[Nat.mod_eq_of_lt hlt,p8,show (256:Nat) ^ (2 * k)=65536 ^ k by rw[Nat.pow_mul],hd]
    omega
   have q1:((E0 8 M 255 (2 * k+1):Nat):Int)=e k / 256:=by
    unfold E0
    rw[Nat.mod_eq_of_lt hlt,p8,Nat.pow_succ,show (256:Nat) ^ (2 * k)=65536 ^ k by rw[Nat.pow_mul],<-Nat.div_div_eq_div_mul,hd]
    omega
   rw[q0,q1]
  ·obtain⟨l,i⟩:=y
   obtain⟨hl,rfl⟩:l=(List.range (2 * 16)).map (λj=>((E0 8 M 255 j:Nat):Int))/\i=((16:Nat):Int):=hy
   exact Ok.f rfl (Ok.d hl)
section
attribute [local irreducible] Ok
theorem P9{ρ:Type}{Q:ρ->Prop}{a:Nat}{o:Operand}{d b:Nat}{f:Nat->Int}{K:Unit->TT ρ}(h:Ok (K ()) Q):Ok (.Qy a (ZA o d b f) K) Q:=Ok.o rfl h
theorem P8{ρ:Type}{Q:ρ->Prop}{a:Nat}{o v:Operand}{b:Nat}{f g:Nat->Int}{K:Unit->TT ρ}(h:Ok (K ()) Q):Ok (.Qy a (Hj o v b f g) K) Q:=Ok.o rfl h
theorem S5{ρ:Type}{Q:ρ->Prop}{a d:Nat}{K:Unit->TT ρ}(h:Ok (K ()) Q):Ok (.Qy a (DD d) K) Q:=Ok.o rfl h
theorem qR(s:za)(hs:s.size=32):Qz (pO s) (λr=>r=PF s):=by
 have hl:(Q3 s).length=32:=by rw[J3,hs]
 have hx:∀i,i < 32->(Q3 s)[i]?=some ((on s i:Nat):Int):=(by grind [Fi,HS])
 have c0:Qm (Qm (Int.tdiv ((on s 0:Nat):Int) 8) * 8)=((on s 0 / 8 * 8:Nat):Int):=by
  have:=UA s 0
  have e:Int.tdiv ((on s 0:Nat):Int) 8=((on s 0 / 8:Nat):Int):=td _ 8
  rw[e]
  show IntKind.u8.wrap (IntKind.u8.wrap _ * 8)=_
  grind [IntKind.wrap_u8]
 have c1:Qm (Int.tmod ((on s 31:Nat):Int) 64+64)=((on s 31 % 64+64:Nat):Int):=by
  have e:Int.tmod ((on s 31:Nat):Int) 64=((on s 31 % 64:Nat):Int):=tm _ 64
  rw[e]
  show IntKind.u8.wrap _=_
  rw[IntKind.wrap_u8];omega
 have h31:((Q3 s).set 0 (Qm (Qm (Int.tdiv ((on s 0:Nat):Int) 8) * 8)))[31]?=some ((on s 31:Nat):Int):=by
  grind
 unfold pO
 refine Qz.fn ?_
 unfold Quo
 refine Ok.o rfl (Ok.k (by rw[hl];rfl) (Ok.r rfl (hx 0 (by decide)) (Ok.k (by rw[hl];rfl) (Ok.r rfl (hx 0 (by decide)) (Ok.re (Ok.g ?_))))))
 refine Ok.k (by grind) (Ok.r rfl h31 (Ok.k (by grind) (Ok.r rfl h31 (Ok.re (Ok.g (Ok.o rfl (Ok.d ?_)))))))
 rw[c0,c1]
 unfold PF
 congr 1
 refine List.ext_getElem? λi=>?_
 rw[Yg,List.getElem?_set,List.getElem?_set,List.length_set,hl]
 unfold clF
 grind
theorem Ht(k p:za)(hk:k.size=32)(hp:p.size=32):Qz (mX k p) (λr=>r=xS k p):=by
 unfold mX
 refine Qz.fn ?_
 unfold g70
 refine Ok.c (qR k hk) λc hc=>Ok.c (xO p hp) λu hu=>?_
 have hN:∀i,i < 255->on c (i / 8) / 2 ^ (i % 8) % 2=KY (PF k) / 2 ^ i % 2:=λi hi=>by rw[hc];exact PT (on (PF k)) (UA _) (n:=32) (k:=i) (by omega)
 have hcs:c.size=32:=by rw[hc];exact Nn k
 have hx:xS k p=GR (xN (KY (PF k)) (KY p % 2 ^ 255)):=by unfold xS;rfl
 rw[hx]
 clear hc hx
 generalize KY (PF k)=N at *
 repeat first|refine P9 ?_|refine P8 ?_|refine S5 ?_
 refine Ok.c (XI 1 ⟨by decide,by decide⟩) λone h1=>Ok.c (XI 0 ⟨by decide,by decide⟩) λzer h0=>?_
 repeat first|refine P9 ?_|refine P8 ?_|refine S5 ?_
 refine Ok.c (XI 1 ⟨by decide,by decide⟩) λon2 h1'=>?_
 repeat first|refine P9 ?_|refine P8 ?_|refine S5 ?_
 have n1:∀x:Nat->Int,vF x 16=1->nF x=1:=λx h=>by unfold nF;rw[h];decide +kernel
 have n0:∀x:Nat->Int,vF x 16=0->nF x=0:=λx h=>by unfold nF;rw[h];decide +kernel
 have nc:∀x:Nat->Int,vF x 16=121665->nF x=121665:=λx h=>by unfold nF;rw[h];decide +kernel
 have nu:nF u=KY p % 2 ^ 255 % nP:=by unfold nF;rw[hu.2];exact GL rfl
 obtain⟨L,hL⟩:∃L,HW 121665 (nF u) (Crv.bits N 255) 1 0 (nF u) 1=L:=⟨_,rfl⟩
 refine Ok.b (R:=λe=>(U8 e.1/\U8 e.2)/\L=(nF e.1,nF e.2)) ?_ λe he=>?_
 ·refine Ok.s 255 (by decide) (λk y=>((U8 y.1/\U8 y.2.1/\U8 y.2.2.1/\U8 y.2.2.2.1)/\HW 121665 (nF u) (Crv.bits N (255 - k)) (nF y.1) (nF y.2.1) (nF y.2.2.1) (nF y.2.2.2.1)=L)/\y.q=254 - (k:Int))
   (by grind) (λk y hy hk=>?_) λy hy=>?_
  ·obtain⟨a,b,c2,d,i⟩:=y
   obtain⟨⟨⟨la,lb,lc,ld⟩,hlad⟩,rfl⟩:((U8 a/\U8 b/\U8 c2/\U8 d)/\HW 121665 (nF u) (Crv.bits N (255 - k)) (nF a) (nF b) (nF c2) (nF d)=L)/\i=254 - (k:Int):=hy
   obtain⟨j,hj⟩:∃j,j=254 - k:=⟨_,rfl⟩
   have ej:(254 - (k:Int))=(j:Int):=by omega
   have ew:Q0 ((j:Int) - 1)=254 - ((k+1:Nat):Int):=by grind [Z3]
   rw[show 255 - k=j+1 by omega,On] at hlad
   have hb:=hN j (by omega)
   have e1:U0 .u8 (Z4 .u8 (QZ c (Q0 (Int.tdiv (j:Int) 8))) (Z1 (Int.tmod (j:Int) 8))) 1=((N / 2 ^ j % 2:Nat):Int):=by
    rw[td8 j (by omega),tm8,U2 (by omega) (by omega),HS,Fe ⟨on c (j / 8),UA _ _⟩ ⟨j % 8,Nat.mod_lt _ (by decide)⟩,<-hb]
   have e2:=td8 j (by omega)
   have hb2:=NJ N j
   rw[ej]
   refine Ok.t (by grind) (Ok.k (by grind) (Ok.k (by grind [tm8,U2,decide,Z1,Int.tmod]) ?_))
   refine Ok.b (R:=λe=>(U8 e.1/\U8 e.2.1/\U8 e.2.2.1/\U8 e.2.2.2)/\e=if N / 2 ^ j % 2=1 then (c2,d,a,b) else (a,b,c2,d)) (Ok.e (λhc=>?_) λhc=>?_) λe he=>?_
   ·have hc:(U0 .u8 (Z4 .u8 (QZ c (Q0 (Int.tdiv (j:Int) 8))) (Z1 (Int.tmod (j:Int) 8))) 1==1)=true:=hc
    rw[e1] at hc
    repeat first|refine P9 ?_|refine P8 ?_|refine S5 ?_
    simp_all [Ok.d,if_pos,Fm]
   ·have hc:(U0 .u8 (Z4 .u8 (QZ c (Q0 (Int.tdiv (j:Int) 8))) (Z1 (Int.tmod (j:Int) 8))) 1==1)=false:=hc
    simp_all [Ok.d,if_neg,AL]
   ·obtain⟨x,z,x2,z2⟩:=e
    obtain⟨⟨l1,l2,l3,l4⟩,hE⟩:=he
    repeat first|refine P9 ?_|refine P8 ?_|refine S5 ?_
    refine Ok.c (Gp x z l1 l2) λp2 hp2=>?_
    repeat first|refine P9 ?_|refine P8 ?_|refine S5 ?_
    refine Ok.c (Gb x z l1 l2) λm hm=>?_
    repeat first|refine P9 ?_|refine P8 ?_|refine S5 ?_
    refine Ok.c (JD p2 p2 hp2.1 hp2.1) λs hs=>?_
    repeat first|refine P9 ?_|refine P8 ?_|refine S5 ?_
    refine Ok.c (JD m m hm.1 hm.1) λt ht=>?_
    repeat first|refine P9 ?_|refine P8 ?_|refine S5 ?_
    refine Ok.c (Gb s t hs.1 ht.1) λg hg=>?_
    repeat first|refine P9 ?_|refine P8 ?_|refine S5 ?_
    refine Ok.c (Gb x2 z2 l3 l4) λf0 hf0=>?_
    repeat first|refine P9 ?_|refine P8 ?_|refine S5 ?_
    refine Ok.c (JD f0 p2 hf0.1 hp2.1) λf hf=>?_
    repeat first|refine P9 ?_|refine P8 ?_|refine S5 ?_
    refine Ok.c (Gp x2 z2 l3 l4) λg0 hg0=>?_
    repeat first|refine P9 ?_|refine P8 ?_|refine S5 ?_
    refine Ok.c (JD g0 m hg0.1 hm.1) λq hq=>?_
    repeat first|refine P9 ?_|refine P8 ?_|refine S5 ?_
    refine Ok.c (JD s t hs.1 ht.1) λv1 hv1=>?_
    repeat first|refine P9 ?_|refine P8 ?_|refine S5 ?_
    refine Ok.c (XI 121665 ⟨by decide,by decide⟩) λcc hcc=>?_
    repeat first|refine P9 ?_|refine P8 ?_|refine S5 ?_
    refine Ok.c (JD cc g hcc.1 hg.1) λd1 hd1=>?_
    repeat first|refine P9 ?_|refine P8 ?_|refine S5 ?_
    refine Ok.c (Gp s d1 hs.1 hd1.1) λd2 hd2=>?_
    repeat first|refine P9 ?_|refine P8 ?_|refine S5 ?_
    refine Ok.c (JD g d2 hg.1 hd2.1) λv2 hv2=>?_
    repeat first|refine P9 ?_|refine P8 ?_|refine S5 ?_
    refine Ok.c (Gp f q hf.1 hq.1) λh3 hh3=>?_
    repeat first|refine P9 ?_|refine P8 ?_|refine S5 ?_
    refine Ok.c (Gp f q hf.1 hq.1) λh4 hh4=>?_
    repeat first|refine P9 ?_|refine P8 ?_|refine S5 ?_
    refine Ok.c (JD h3 h4 hh3.1 hh4.1) λv3 hv3=>?_
    repeat first|refine P9 ?_|refine P8 ?_|refine S5 ?_
    refine Ok.c (Gb f q hf.1 hq.1) λj1 hj1=>?_
    repeat first|refine P9 ?_|refine P8 ?_|refine S5 ?_
    refine Ok.c (Gb f q hf.1 hq.1) λj2 hj2=>?_
    repeat first|refine P9 ?_|refine P8 ?_|refine S5 ?_
    refine Ok.c (JD j1 j2 hj1.1 hj2.1) λj3 hj3=>?_
    repeat first|refine P9 ?_|refine P8 ?_|refine S5 ?_
    refine Ok.c (JD u j3 hu.1 hj3.1) λv4 hv4=>?_
    repeat first|refine P9 ?_|refine P8 ?_|refine S5 ?_
    have D:∀K:Nat->Nat->Nat×Nat,Td 121665 (nF x) (nF z) K=K (nF v1) (nF v2):=λK=>by
     simp only[Td,force_eq]
     rw[hv1.2,hv2.2,hd2.2,hd1.2,hg.2,hs.2,ht.2,hp2.2,hm.2,nc cc hcc.2,wP 121665]
    have F:∀K:Nat->Nat->Nat×Nat,Tm (nF u) (nF x) (nF z) (nF x2) (nF z2) K=K (nF v3) (nF v4):=λK=>by
     simp only[Tm,force_eq]
     rw[hv3.2,hv4.2,hj3.2,hj1.2,hj2.2,hh3.2,hh4.2,hf.2,hq.2,hf0.2,hg0.2,hp2.2,hm.2]
    refine Ok.e (λhc=>?_) λhc=>?_
    ·have hc:(U0 .u8 (Z4 .u8 (QZ c (Q0 (Int.tdiv (j:Int) 8))) (Z1 (Int.tmod (j:Int) 8))) 1==1)=true:=hc
     rw[e1] at hc
     have h1:=Fm hc
     rw[if_pos h1] at hE
     simp only[zJ] at hE
     obtain⟨rfl,rfl,rfl,rfl⟩:=hE
     repeat first|refine P9 ?_|refine P8 ?_|refine S5 ?_
     refine Ok.d ⟨⟨⟨hv3.1,hv4.1,hv1.1,hv2.1⟩,?_⟩,ew⟩
     rw[h1] at hlad
     rw[show 255 - (k+1)=j by omega,<-hlad]
     show _=(bif true then _ else _)
     rw[cond_true,D,F]
    ·have hc:(U0 .u8 (Z4 .u8 (QZ c (Q0 (Int.tdiv (j:Int) 8))) (Z1 (Int.tmod (j:Int) 8))) 1==1)=false:=hc
     rw[e1] at hc
     have h1:=AL hb2 hc
     rw[if_neg (by rw[h1];decide)] at hE
     simp only[zJ] at hE
     obtain⟨rfl,rfl,rfl,rfl⟩:=hE
     refine Ok.d ⟨⟨⟨hv1.1,hv2.1,hv3.1,hv4.1⟩,?_⟩,ew⟩
     rw[h1] at hlad
     rw[show 255 - (k+1)=j by omega,<-hlad]
     show _=(bif false then _ else _)
     rw[cond_false,D,F]
  ·obtain⟨a,b,c2,d,i⟩:=y
   obtain⟨⟨⟨la,lb,lc,ld⟩,hlad⟩,rfl⟩:((U8 a/\U8 b/\U8 c2/\U8 d)/\HW 121665 (nF u) (Crv.bits N (255 - 255)) (nF a) (nF b) (nF c2) (nF d)=L)/\i=254 - ((255:Nat):Int):=hy
   refine Ok.f rfl (Ok.d ⟨⟨la,lb⟩,?_⟩)
   rw[Nat.sub_self,Og,GB] at hlad
   exact hlad.symm
 ·obtain⟨a,b⟩:=e
  obtain⟨⟨la,lb⟩,hl⟩:=he
  repeat first|refine P9 ?_|refine P8 ?_|refine S5 ?_
  refine Ok.c (sF b lb) λq hq=>?_
  repeat first|refine P9 ?_|refine P8 ?_|refine S5 ?_
  refine Ok.c (JD a q la hq.1) λt ht=>Ok.c (sG t ht.1) λo ho=>Ok.d ?_
  rw[ho,ht.2,hq.2]
  rw[nu,hl] at hL
  unfold xN
  rw[hL]
end
abbrev Out:=(Q4×List Qq)⊕(Bool×Int)
def Kq(k:Int)(b:za):za:=strOfNums [k % 256,(b.size:Int) / 65536 % 256,(b.size:Int) / 256 % 256,(b.size:Int) % 256]++b
theorem K2(k:Int)(b:za):(Kq k b).size=4+b.size:=by unfold Kq;rw[ByteArray.size_append,W4];rfl
def Dl(st now:Int):Z7:=if st=1\/st=6 then nY else Rr now
def ZO(s:Q4):za:=xS s.fX YF
theorem L6(s:Q4):(ZO s).size=32:=O6 _ _
def Wj:za:=strOfNums (List.replicate 32 0)
def aF:za:=bs [116,97,110,110,111,121,32,109,97,115,116,101,114]
def EJ:za:=bs [99,108,105,101,110,116]
def Di:za:=bs [115,101,114,118,101,114]
def Ah(a b c d:za):za:=Fq (a++b) (c++d) aF
def P0(m side s:za):za:=N7 (Fq m zd side) (He s)
theorem N9(m side s:za):(P0 m side s).size=32:=R7 _ _
def Gu(s:Q4)(st k:Int)(b:za):Q4:={ s with fw:=st,fm:=s.fm+1,fo:=[⟨k,s.fm,b⟩],fC:=Dl st s.fj }
def Bn(s:Q4)(e:Int):Q4:={ s with fw:=7,fE:=zd,fk:=⟨zd,zd,zd⟩,fI:=zd,fo:=[],fC:=nY,gd:=e }
def Xn(s:Q4):Out:=bif s.fF==1&&s.fw==1 then .inl (Gu s 2 1 (s.fB++ZO s),[⟨1,s.fm,s.fB++ZO s⟩]) else .inr (false,8)
def Ys(s:Q4)(b:za):Out:=
 if b.size≠32 then .inr (false,5) else if ¬s.fm < 7 then .inr (false,3) else
 .inl ({ Gu s 3 1 (s.fB++ZO s++b) with fE:=Kq 1 (s.fB++ZO s++b) },[⟨1,s.fm,s.fB++ZO s++b⟩])
def ML(s:Q4)(b:za):za:=s.fE++Kq 3 b
def DW(s:Q4)(b:za):za:=Ah (xS s.fX (Zo (b.extract 64 b.size)).fL) (xS s.gc (b.extract 32 64)) s.fB (b.extract 0 32)
def YM(s:Q4)(b:za):za:=P0 (DW s b) EJ (ML s b++s.fh)++s.fh
def I5(s:Q4)(b:za):Out:=
 if ¬64 < b.size then .inr (false,5) else if okB (b.extract 64 b.size)=false then .inr (false,5) else
 if UP (Zo (b.extract 64 b.size)) s.ft s.fj≠0 then .inr (true,UP (Zo (b.extract 64 b.size)) s.ft s.fj) else
 if xS s.fX (Zo (b.extract 64 b.size)).fL=Wj\/xS s.gc (b.extract 32 64)=Wj then .inr (true,2) else
 .inl ({ Gu s 5 4 (YM s b) with fk:=⟨b.extract 0 32,b.extract 32 64,b.extract 64 b.size⟩,fI:=DW s b,fE:=ML s b++Kq 4 (YM s b) },[⟨4,s.fm,YM s b⟩])
def UF(s:Q4)(b:za):Out:=
 if b.size≠32 then .inr (false,5) else if b≠P0 s.fI Di s.fE then .inr (true,9) else
 .inl ({ s with fE:=s.fE++Kq 5 b,fw:=6,fo:=[],fC:=nY },[])
def Mv(s:Q4)(b:za):za:=s.fE++Kq 1 b
def Uf(s:Q4):za:=s.fB++ZO s++s.fh
def T1(s:Q4)(f b:za):Out:=
 if b.size≠64/\b.size≠96 then .inr (false,5) else
 if b.extract 64 b.size≠N7 s.fZ (f++b.extract 0 64) then (if ¬s.fm < 6 then .inr (false,3) else .inl (Gu s 1 2 (N7 s.fZ (f++b.extract 0 64)),[⟨2,s.fm,N7 s.fZ (f++b.extract 0 64)⟩])) else
 .inl ({ Gu s 4 3 (Uf s) with fk:=⟨b.extract 0 32,b.extract 32 64,zd⟩,fE:=Mv s b++Kq 3 (Uf s) },[⟨3,s.fm,Uf s⟩])
def Kb(s:Q4)(b:za):za:=Ah (xS s.gc s.fk.fQ) (xS s.fX (Zo (b.extract 32 b.size)).fL) s.fk.fB s.fB
def WK(s:Q4)(b:za):za:=s.fE++Kq 4 b
def JU(s:Q4)(b:za):za:=P0 (Kb s b) Di (WK s b)
def G5(s:Q4)(b:za):Out:=
 if ¬32 < b.size then .inr (false,5) else if okB (b.extract 32 b.size)=false then .inr (false,5) else
 if UP (Zo (b.extract 32 b.size)) s.ft s.fj≠0 then .inr (true,UP (Zo (b.extract 32 b.size)) s.ft s.fj) else
 if xS s.gc s.fk.fQ=Wj\/xS s.fX (Zo (b.extract 32 b.size)).fL=Wj then .inr (true,2) else
 if b.extract 0 32≠P0 (Kb s b) EJ (s.fE++b.extract 32 b.size) then .inr (true,9) else
 .inl ({ Gu s 6 5 (JU s b) with fk:=⟨s.fk.fB,s.fk.fQ,b.extract 32 b.size⟩,fI:=Kb s b,fE:=WK s b++Kq 5 (JU s b) },[⟨5,s.fm,JU s b⟩])
def H5(s:Q4)(f:za)(n:Qq):Out:=
 if s.fF=1/\(s.fw=2\/s.fw=3)/\n.fp=2 then Ys s n.fe else
 if s.fF=1/\s.fw=3/\n.fp=3 then I5 s n.fe else
 if s.fF=1/\s.fw=5/\n.fp=5 then UF s n.fe else
 if s.fF=2/\s.fw=1/\n.fp=1 then T1 s f n.fe else
 if s.fF=2/\s.fw=4/\n.fp=4 then G5 s n.fe else .inr (false,8)
def FF(s:Q4):Out:=bif !(Ub s.fC s.fj).1 then .inl (s,[]) else bif (NI s.fC s.fj).2 != 0 then .inr (true,6) else .inl ({ s with fC:=(NI s.fC s.fj).1 },s.fo)
def Er(s:Q4)(v:Q2):Out:=
 if v.fp=1 then Xn s else if v.fp=2 then H5 s v.fG v.fP else if v.fp=3 then FF s else .inl (s,bif s.fF==2 then s.fo else [])
def iG(s:Q4)(v:Q2):Bool:=decide (1<=v.fp)&&(decide (v.fp<=4)&&(decide (s.fj<=v.fj)&&(decide (v.fj<=1099511627776)&&(decide ((v.fG.size:Int)<=64)&&(v.fp != 2 || S7 v.fP)))))
def Eb(s:Q4):Out->Q4×List Qq×Int
 | .inl r=>(r.1,r.2,0)
 | .inr (true,e)=>(Bn s e,[],0)
 | .inr (false,e)=>(BC,[],e)
def D5(s:Q4)(v:Q2):Q4×List Qq×Int:=
 bif Zz s then bif iG s v then Eb { s with fj:=v.fj } (Er { s with fj:=v.fj } v) else (BC,[],2) else (BC,[],200)
theorem Sk(k p:za):xS k p=Wj↔xN (KY (PF k)) (KY p % 2 ^ 255)=0:=by
 have hlt:xN (KY (PF k)) (KY p % 2 ^ 255) < 2 ^ 255:=Nat.lt_trans (Nat.mod_lt _ (by decide +kernel)) (by decide +kernel:nP < 2 ^ 255)
 rw[<-Oy hlt]
 have hz:(xS k p).size=Wj.size:=by rw[O6];rfl
 have z0:∀i:Nat,i < 32->QZ Wj (i:Int)=0:=λi hi=>by
  have:((List.range 32).all λi=>QZ Wj ((i:Nat):Int)==0)=true:=by decide
  grind
 constructor
 ·intro h i hi
  show QZ (xS k p) (i:Int)=0
  grind
 ·intro h
  refine Fa hz λi hi=>?_
  have hi:i < 32:=by rwa [O6] at hi
  rw[z0 i hi]
  exact h i hi
theorem VQ(s:Q4)(h:W7.any (B1 s)=true):0<=s.fm/\s.fm<=8:=by
 obtain⟨x,hx,h1⟩:=List.any_eq_true.1 h
 have hb:(W7.all λx=>decide (0<=x.YQ/\x.JG<=8))=true:=by decide
 have hb:=zG.1 hb x hx
 unfold B1 at h1
 grind
structure Vf(s:Q4):Prop where
 nw:N5 s.fj=true
 sc:s.gc.size=32
 fr:s.fX.size=32
 rn:s.fB.size=32
 ck:s.fZ.size<=32
 bd:okB s.fh=true
 bz:s.fh.size<=86
 pl:s.ft.length<=8
 ps:∀p,p∈s.ft->p.size=103
 sd:0<=s.fm/\s.fm<=8
 td:s.fE.size<=412
 tm:Uk s.fC=true
 pb:s.fk.fh.size<=86
 pp:s.fk.fQ.size<=32/\s.fk.fB.size<=32
 ma:s.fI.size<=32
 ll:s.fo.length<=1
 lk:s.fF=2->s.fw=4->s.fk.fQ.size=32
theorem Yb{s:za}(h:okB s=true):55<=s.size/\s.size<=86:=by
 unfold okB at h
 simp only[zD,zC] at h
 obtain⟨h1,h2,h3,h4⟩:=h
 obtain⟨z1,z2⟩:=N6 (G0 h4).1
 grind [ByteArray.size_extract,Zo,UI]
theorem DN{s:za}(h:okB s=true):(Zo s).fL.size=32/\O7 (Zo s)=true:=by
 simp_all [zD,zC,G0,okB]
theorem LP{s:za}(h:WC s=true):s.size=0:=by
 simp_all [zC,WC]
theorem Js{s:za}(h:UM s=true):s.size=32:=by grind [UM]
theorem Yr{s:Q4}(h:Zz s=true):Vf s:=by
 unfold Zz iA at h
 simp only[zD] at h
 obtain⟨⟨h1,h2,h3,h4,h5,h6,h7,h8,h9⟩,h10⟩:=h
 have sd:=VQ s h10
 obtain⟨x,hx,hl⟩:=List.any_eq_true.1 h10
 have hb:(W7.all λx=>decide (0<=x.ZT/\x.ZT<=240/\(x.QB=0\/x.QB=1\/x.QB=2)/\(x.JF=2/\x.Zv=4->x.QB=1)))=true:=by decide
 have hb:=zG.1 hb x hx
 rw[zC] at hb
 unfold B1 at hl
 simp only[zD,beq_iff_eq,zC] at hl
 obtain⟨l1,l2,l3,l4,l5,l6,l7,l8⟩:=hl
 have bz:=Yb h7
 unfold Lm at h6
 simp only[zD,zC,zG] at h6
 have pk:s.fk.fh.size<=86/\s.fk.fQ.size<=32/\s.fk.fB.size<=32/\s.fI.size<=32/\(x.QB=1->s.fk.fQ.size=32):=by
  unfold Mm at l7
  rcases hb.2.2.1 with hk|hk|hk
  ·simp_all [if_true,zD,LP]
  ·simp_all [if_true,if_false,zD,Js,LP]
  simp_all [if_false,zD,Js,Yb]
 refine⟨h1,Js h2,Js h3,Js h4,?_,h7,bz.2,h6.1,λp hp=>?_,sd,?_,h8,pk.1,⟨pk.2.1,pk.2.2.1⟩,pk.2.2.2.1,?_,(by grind)⟩
 ·grind [Js,LP,Kz]
 ·simp_all [zD,zC,YA]
 ·grind [Hh]
 ·unfold UO at l8
  grind
theorem Vf.sm{s:Q4}(h:Vf s):Sm s:=⟨by have:=h.bz;omega,by have:=h.pb;omega,by have:=h.td;omega,by have:=h.rn;omega,by have:=h.pl;omega,λp hp=>by have:=h.ps p hp;omega,by have:=h.ll;omega⟩
end Go.Proofs.YtjdieimefebnfaaGreatDoor
namespace Go.Proofs.YtjdieimefebnfaaGreatDoor
open Go Go.EV
theorem SD(t:Y0)(ht:Jj t)(a b c:za)(ha:a.size<=4096)(hb:b.size<=4096)(hc:c.size<=4096):Qz (dY t a b c 32) (λr=>r=Fq a b c):=by
 unfold dY
 refine Qz.fn ?_
 unfold Qys
 refine Ok.c (Ll t ht b a (by omega) (by omega)) λp hp=>?_
 have hz:p.size=32:=by grind [R7]
 refine Ok.b (R:=λe=>e=N7 p (c++bs [1])) ?_ λe he=>?_
 ·refine Ok.s 1 (by decide) (λk y=>y.2.2=(k:Int)+1/\(k=0->y.1=zd/\y.2.1=zd)/\(k=1->y.1=N7 p (c++bs [1]))) (by grind) (λk y hy hk=>?_) λy hy=>?_
  ·obtain⟨h1,h2,h3⟩:=hy
   obtain rfl:k=0:=by omega
   obtain⟨e1,e2⟩:=h2 rfl
   obtain⟨y1,y2,y3⟩:=y
   simp only at h1 e1 e2
   subst h1 e1 e2
   have e0:(zd++c)++strOfNums [Qm (((0:Nat):Int)+1)]=c++bs [1]:=by rw[ByteArray.empty_append];rfl
   refine Ok.t (by simp) (Ok.k (by simp;omega) (Ok.k (by rw[ByteArray.size_append,W4];simp;omega) ?_))
   rw[e0]
   refine Ok.c (Ll t ht p _ (by omega) (by rw[ByteArray.size_append];show _+1<=_;omega)) λr hr=>Ok.k (by rw[hr,R7];decide) (Ok.d ?_)
   refine⟨by rfl,λh=>(by cases h),λ_=>?_⟩
   grind [ByteArray.empty_append,ByteArray.empty]
  ·obtain⟨h1,h2,h3⟩:=hy
   refine Ok.f ?_ (Ok.d (h3 rfl))
   rw[h3 rfl,R7];rfl
 ·subst he
  refine Ok.k ?_ (Ok.d ?_)
  ·rw[R7];decide
  ·have e:(N7 p (c++bs [1])).extract 0 (32:Int).toNat=N7 p (c++bs [1]):=by
    grind [ByteArray.extract_zero_size,R7,N7,bs]
   rw[e,hp];rfl
theorem Mx:Qz s71 (λr=>r=YF):=⟨YF,by kernel_rfl,rfl⟩
theorem R3(n:Qq)(hb:n.fe.size<=100000):Qz (Iy n) (λr=>r=Kq n.fp n.fe):=by
 unfold Iy
 refine Qz.fn ?_
 unfold Qjw
 refine Ok.k (by rw[W4,zC];grind) (Ok.d ?_)
 grind [Int.tdiv_eq_ediv_of_nonneg,Z3,N3,Kq]
theorem JX(s:Q4)(st k:Int)(b:za)(hn:N5 s.fj=true)(hs:0<=s.fm/\s.fm<=100)(h6:1<=st/\st<=6):Qz (lJ s st k b) (λr=>r=Gu s st k b):=by
 unfold lJ
 refine Qz.fn ?_
 unfold g74
 have e1:Q0 (s.fm+1)=s.fm+1:=Z3 (by omega) (by omega)
 rw[e1]
 refine Ok.c Wi λr hr=>?_
 subst hr
 refine Ok.n (R:=λc=>c=!decide (st=1\/st=6)) ?_ λc hc=>?_
 ·have q:st=1\/st=2\/st=3\/st=4\/st=5\/st=6:=by omega
  rcases q with rfl|rfl|rfl|rfl|rfl|rfl
  ·exact Ok.f rfl (Ok.f rfl (Ok.f rfl (Ok.d rfl)))
  ·exact Ok.t rfl (Ok.d rfl)
  ·exact Ok.f rfl (Ok.t rfl (Ok.d rfl))
  ·exact Ok.f rfl (Ok.f rfl (Ok.t rfl (Ok.d rfl)))
  ·exact Ok.f rfl (Ok.f rfl (Ok.f rfl (Ok.d rfl)))
  ·exact Ok.f rfl (Ok.f rfl (Ok.f rfl (Ok.d rfl)))
 subst hc
 unfold Gu Dl
 refine Ok.e (λh=>?_) λh=>Ok.g (Ok.d ?_)
 ·rw[if_neg (by simpa using h)]
  grind [Ok.c,Px,Ok.g,Ok.d]
 grind
theorem C7(s:Q4)(e:Int):Qz (eN s e) (λr=>r=Bn s e):=by
 unfold eN
 refine Qz.fn ?_
 unfold g79
 exact Ok.c Wi λr hr=>Ok.d (by rw[hr];rfl)
theorem Hv(s:Q4)(h:s.fX.size=32):Qz (s75 s) (λr=>r=ZO s):=by
 unfold s75
 refine Qz.fn ?_
 unfold g75
 refine Ok.c Mx λr hr=>?_
 subst hr
 exact Ok.c (Ht _ _ h JO) λr hr=>Ok.d hr
theorem ES(t:Y0)(ht:Jj t)(a b c d:za)(ha:a.size<=100)(hb:b.size<=100)(hc:c.size<=100)(hd:d.size<=100):Qz (dU t a b c d) (λr=>r=(Ah a b c d,!decide (a=Wj\/b=Wj))):=by
 unfold dU
 refine Qz.fn ?_
 unfold Qju
 refine Ok.o rfl (Ok.o rfl (Ok.n (R:=λq=>q=(!decide (a=Wj\/b=Wj),Ah a b c d)) ?_ (by grind [Ok.d])))
 refine Ok.k (by simp;omega) (Ok.k (by simp;omega) (Ok.c (SD t ht _ _ _ (by grind) (by grind) (by decide)) λr hr=>?_))
 have hr:r=Ah a b c d:=hr
 refine Ok.e (λh=>Ok.d ?_) λh=>Ok.d ?_
 ·have h:(!decide (a=Wj))=true:=h
  have h:a≠Wj:=by simpa using h
  rw[hr]
  refine Prod.ext ?_ rfl
  show (!decide (b=Wj))=_
  grind
 ·have h:(!decide (a=Wj))=false:=h
  grind
theorem Wa(t:Y0)(ht:Jj t)(m side s:za)(hm:m.size<=100)(hd:side.size<=100)(hs:s.size<=4096):Qz (Cu t m side s) (λr=>r=P0 m side s):=by
 unfold Cu
 refine Qz.fn ?_
 unfold Qjj
 refine Ok.c (SD t ht m zd side (by omega) (by decide) (by omega)) λr hr=>Ok.c (La t ht s (by omega)) λr2 hr2=>?_
 have z1:r.size=32:=by grind [Ya]
 have z2:r2.size=32:=by grind [T6]
 exact Ok.c (Ll t ht r r2 (by omega) (by omega)) λx hx=>Ok.d (by rw[hx,hr,hr2];rfl)
theorem Gt(t:Y0)(ht:Jj t)(s:Q4)(f:za)(n:Qq)(hk:s.fZ.size<=100)(hf:f.size<=100)(hb:64<=n.fe.size):Qz (rW t s f n) (λr=>r=N7 s.fZ (f++n.fe.extract 0 64)):=by
 grind [oF,Qz.fn,ByteArray.size_extract,Ok.k,Ok.c,Ll,ByteArray.size_append,Ok.d,rW,Qjy]
theorem Pd(v:Q2):Qz (s73 v) (λr=>r=(decide (1<=v.fp)&&(decide (v.fp<=4)&&(decide (0<=v.fj)&&(decide (v.fj<=1099511627776)&&(decide ((v.fG.size:Int)<=64)&&(v.fp != 2 || S7 v.fP))))))):=by
 unfold s73
 refine Qz.fn ?_
 unfold g73
 refine Ok.n (R:=λc=>c=_) ?_ λc hc=>Ok.d hc
 exact Y7 λ_=>Y7 λ_=>Y7 λ_=>Y7 λ_=>Y7 λ_=>MK (by grind [Ok.c,XG,Ok.d])
structure Vg(s:Q4):Prop where
 sd:s.fF=1\/s.fF=2
 s7:s.fw=2\/s.fw=3->s.fm<=7
 s6:s.fF=2->s.fw=1->s.fm<=6/\s.fE=zd
theorem nU{s:Q4}(h:Zz s=true):Vg s:=by
 unfold Zz at h
 simp only[zD] at h
 obtain⟨x,hx,hl⟩:=List.any_eq_true.1 h.2
 have hb:(W7.all λx=>decide ((x.JF=1\/x.JF=2)/\(x.Zv=2\/x.Zv=3->x.JG<=7)/\(x.JF=2/\x.Zv=1->x.JG<=6/\x.ZT=0/\x.QB=0)))=true:=by decide
 have hb:=zG.1 hb x hx
 rw[zC] at hb
 unfold B1 Hh at hl
 simp only[zD,beq_iff_eq,zC] at hl
 obtain⟨l1,l2,l3,l4,l5,_⟩:=hl
 refine⟨by omega,(by grind),λq1 q2=>?_⟩
 obtain⟨b1,b2,b3⟩:=hb.2.2 ⟨by omega,by omega⟩
 refine⟨by omega,vE.2 ?_⟩
 grind
theorem Qzl{b:za}(h:b.size=32):((b.size:Int) != 32)=false:=by rw[h];rfl
theorem Qzo{b:za}(h:b.size≠32):((b.size:Int) != 32)=true:=by simp;omega
theorem Lg(s:Q4)(n:Qq)(h:Vf s)(hb:n.fe.size<=4000)(h7:s.fm<=7):Qz (pE s n) (λr=>r=Eb s (Ys s n.fe)):=by
 unfold pE
 refine Qz.fn ?_
 unfold Quu Ys
 have sd:=h.sd
 by_cases z:n.fe.size=32
 rotate_left
 ·rw[if_pos z]
  exact Ok.t (Qzo z) (Ok.d rfl)
 rw[if_neg (by simpa using z)]
 refine Ok.f (Qzl z) (Ok.e (λh2=>?_) λh2=>?_)
 ·rw[if_pos (by simp at h2;omega)];exact Ok.d rfl
 rw[if_neg (by simp at h2;omega)]
 refine Ok.c (Hv s h.fr) λr hr=>?_
 subst hr
 have z1:(s.fB++ZO s).size=64:=by rw[ByteArray.size_append,L6,h.rn]
 have z2:(s.fB++ZO s++n.fe).size=96:=by grind
 refine Ok.k (by grind) (Ok.k (by grind) (Ok.c (JX s 3 1 _ h.nw (by omega) (by decide)) λr hr=>?_))
 subst hr
 exact Ok.r rfl rfl (Ok.c (R3 ⟨1,s.fm,s.fB++ZO s++n.fe⟩ (show (s.fB++ZO s++n.fe).size<=100000 by omega)) λr hr=>Ok.d (by rw[hr];rfl))
theorem CQ(t:Y0)(ht:Jj t)(s:Q4)(n:Qq)(h:Vf s):Qz (pK t s n) (λr=>r=Eb s (UF s n.fe)\/n.fp≠5):=by
 unfold pK
 refine Qz.fn ?_
 unfold Quy UF
 have td:=h.td
 have ma:=h.ma
 by_cases z:n.fe.size=32
 rotate_left
 ·rw[if_pos z]
  exact Ok.t (Qzo z) (Ok.d (.inl rfl))
 rw[if_neg (by simpa using z)]
 refine Ok.f (Qzl z) (Ok.c (Wa t ht s.fI Di s.fE (by omega) (by decide) (by omega)) λr hr=>?_)
 subst hr
 by_cases hc:n.fe=P0 s.fI Di s.fE
 rotate_left
 ·rw[if_pos hc]
  exact Ok.t (by grind) (Ok.c (C7 s 9) λr hr=>Ok.d (.inl (by rw[hr];rfl)))
 rw[if_neg (by simpa using hc)]
 refine Ok.f (by grind) (Ok.c (R3 n (by omega)) λr hr=>?_)
 subst hr
 refine Ok.k (by rw[K2,zC];omega) (Ok.c Wi λr hr=>Ok.d ?_)
 subst hr
 by_cases hk:n.fp=5
 ·rw[hk];exact .inl rfl
 grind
theorem Ia(t:Y0)(ht:Jj t)(s:Q4)(n:Qq)(h:Vf s)(hb:n.fe.size<=4000)(hk:n.fp=3):Qz (pM t s n) (λr=>r=Eb s (I5 s n.fe)):=by
 unfold pM
 refine Qz.fn ?_
 unfold Quj I5
 have td:=h.td
 have bz:=h.bz
 have sd:=h.sd
 generalize hB:n.fe=b at *
 by_cases h64:64 < b.size
 rotate_left
 ·rw[if_pos h64]
  refine Ok.n (R:=λc=>c=true) (Ok.t (zR (by omega)) (Ok.d rfl)) λc hc=>?_
  subst hc
  exact Ok.t rfl (Ok.d rfl)
 rw[if_neg (by grind)]
 have c2:(decide (0<=(64:Int))&&decide ((64:Int)<=(b.size:Int)))=true:=by simp;omega
 have c3:(decide (0<=(32:Int))&&decide ((32:Int)<=(b.size:Int)))=true:=by simp;omega
 have hx:(b.extract 64 b.size).size=b.size - 64:=by simp_all
 refine Ok.n (R:=λc=>c=!okB (b.extract 64 b.size)) (by grind [Ok.f,decide_eq_false,Ok.k,Ok.c,Ua,Ok.d]) λc hc=>?_
 subst hc
 cases ho:okB (b.extract 64 b.size) with
 | false=>
  rw[if_pos rfl]
  exact Ok.t rfl (Ok.d rfl)
 | true=>
  rw[if_neg (by decide)]
  refine Ok.f rfl (Ok.k c2 (Ok.c (Mi _) λr hr=>?_))
  have hr:r.1=Zo (b.extract 64 b.size):=by grind [YK]
  rw[hr]
  clear hr
  refine Ok.c (GY (Zo (b.extract 64 b.size)) s.ft s.fj λp hp=>by have:=h.ps p hp;omega) λacc hacc=>?_
  rw[<-hacc]
  clear hacc
  by_cases ha:acc=0
  rotate_left
  ·rw[if_pos ha]
   exact Ok.t (by simpa using ha) (Ok.c (C7 s acc) λr hr=>Ok.d (by rw[hr];rfl))
  rw[if_neg (by simpa using ha)]
  have kz:=(DN ho).1
  have hb2:=(Yb ho).2
  have x1:(b.extract 32 64).size=32:=by rw[ByteArray.size_extract];omega
  have x0:(b.extract 0 32).size=32:=by rw[ByteArray.size_extract];omega
  refine Ok.f (by simpa using ha) (Ok.k c3 (Ok.k (by rw[c2];rfl) (Ok.k c2 (Ok.c (Ht _ _ h.fr kz) λf1 e1=>Ok.c (Ht _ _ h.sc x1) λf2 e2=>?_))))
  have em:Ah f1 f2 s.fB (b.extract 0 32)=DW s b:=by rw[e1,e2];rfl
  rw[<-e1,<-e2]
  have z1:f1.size=32:=by grind [O6]
  have z2:f2.size=32:=by grind [O6]
  refine Ok.c (ES t ht f1 f2 s.fB (b.extract 0 32) (by omega) (by omega) (by rw[h.rn];decide) (by omega)) λm hm=>?_
  rw[em] at hm
  subst hm
  clear em e1 e2
  by_cases hz:f1=Wj\/f2=Wj
  ·rw[if_pos hz]
   exact Ok.t (by grind) (Ok.c (C7 _ 2) λr hr=>Ok.d (by rw[hr];rfl))
  rw[if_neg hz]
  refine Ok.f (by grind) (Ok.c (R3 n (by rw[hB];omega)) λq hq=>?_)
  rw[hk,hB] at hq
  subst hq
  have tz:(s.fE++Kq 3 b).size<=800:=by rw[ByteArray.size_append,K2];omega
  have tb:(s.fE++Kq 3 b++s.fh).size<=1000:=by grind
  have mz:(DW s b).size=32:=Ya _ _ _
  refine Ok.k (by grind) (Ok.k (by grind) (Ok.c (Wa t ht (DW s b) EJ _ (by omega) (by decide) (by omega)) λq hq=>?_))
  have hq:q++s.fh=YM s b:=by rw[hq];rfl
  have zq:(YM s b).size<=200:=by grind [ByteArray.size_append,N9,YM]
  have zq2:q.size+s.fh.size=(YM s b).size:=by grind
  refine Ok.k (by grind) ?_
  rw[hq]
  clear hq zq2
  refine Ok.c (JX _ 5 4 (YM s b) h.nw (by grind) (by decide)) λr hr=>?_
  subst hr
  refine Ok.r rfl rfl (Ok.c (R3 ⟨4,s.fm,YM s b⟩ (show (YM s b).size<=100000 by omega)) λr hr=>Ok.k ?_ (Ok.d ?_))
  ·rw[hr,zC,K2]
   show (s.fE++Kq 3 b).size+(4+(YM s b).size)<=_
   omega
  ·rw[hr];rfl
theorem Ln(t:Y0)(ht:Jj t)(s:Q4)(f:za)(n:Qq)(h:Vf s)(hf:f.size<=64)(hk:n.fp=1)(h6:s.fm<=6/\s.fE=zd):Qz (pW t s f n) (λr=>r=Eb s (T1 s f n.fe)):=by
 unfold pW
 refine Qz.fn ?_
 unfold Quz T1
 have bz:=h.bz
 have sd:=h.sd
 have ck:=h.ck
 generalize hB:n.fe=b at *
 by_cases hz:b.size=64\/b.size=96
 rotate_left
 ·have n1:((b.size:Int) != 64)=true:=by simp;omega
  have n2:((b.size:Int) != 96)=true:=by simp;omega
  rw[if_pos ⟨λe=>hz (.inl e),λe=>hz (.inr e)⟩]
  refine Ok.n (R:=λc=>c=true) (Ok.t n1 (Ok.d n2)) λc hc=>?_
  subst hc
  exact Ok.t rfl (Ok.d rfl)
 rw[if_neg (λq=>hz.elim q.1 q.2)]
 have c2:(decide (0<=(64:Int))&&decide ((64:Int)<=(b.size:Int)))=true:=by simp;omega
 have c3:(decide (0<=(32:Int))&&decide ((32:Int)<=(b.size:Int)))=true:=by simp;omega
 refine Ok.n (R:=λc=>c=false) (Ok.e (by grind [Ok.d]) λn1=>Ok.d rfl) λc hc=>?_
 subst hc
 have om:=Gt t ht s f n (by omega) (by omega) (by rw[hB];omega)
 rw[hB] at om
 generalize N7 s.fZ (f++b.extract 0 64)=M at *
 refine Ok.f rfl (Ok.c om λr hr=>Ok.k c2 ?_)
 subst hr
 by_cases hc:b.extract 64 b.size=r
 rotate_left
 ·rw[if_pos hc]
  refine Ok.t (by grind) (Ok.e (λh2=>?_) λh2=>?_)
  ·rw[if_pos (by simp at h2;omega)];exact Ok.d rfl
  ·rw[if_neg (by simp at h2;omega)]
   exact Ok.c (JX s 1 2 r h.nw (by omega) (by decide)) λq hq=>Ok.d (by rw[hq];rfl)
 rw[if_neg (by simpa using hc)]
 refine Ok.f (by grind) (Ok.k c3 (Ok.k (by rw[c2];rfl) (Ok.c (R3 n (by rw[hB];omega)) λq hq=>?_)))
 have hq:q=Mv s b:=by grind [ByteArray.empty_append,Mv]
 subst hq
 have zt:(Mv s b).size<=600:=by grind [ByteArray.size_append,K2,Mv]
 have zr:(s.fB++ZO s).size=64:=by rw[ByteArray.size_append,L6,h.rn]
 have zb:(Uf s).size<=200:=by grind [ByteArray.size_append,Uf]
 refine Ok.c (Hv _ (show s.fX.size=32 from h.fr)) λp hp=>?_
 rw[show p=ZO s from hp]
 clear hp
 refine Ok.k (by grind) (Ok.k (by grind) (Ok.c (JX _ 4 3 (Uf s) h.nw (show 0<=s.fm/\s.fm<=100 by omega) (by decide)) λq hq=>?_))
 subst hq
 refine Ok.r rfl rfl (Ok.c (R3 ⟨3,s.fm,Uf s⟩ (show (Uf s).size<=100000 by omega)) λr hr=>Ok.k ?_ (Ok.d ?_))
 ·rw[hr,zC,K2]
  show (Mv s b).size+(4+(Uf s).size)<=_
  omega
 ·rw[hr];rfl
theorem Gc(t:Y0)(ht:Jj t)(s:Q4)(n:Qq)(h:Vf s)(hb:n.fe.size<=4000)(hk:n.fp=4)(hp:s.fk.fQ.size=32):Qz (pH t s n) (λr=>r=Eb s (G5 s n.fe)):=by
 unfold pH
 refine Qz.fn ?_
 unfold Quq G5
 have td:=h.td
 have bz:=h.bz
 have sd:=h.sd
 have pr:=h.pp.2
 generalize hB:n.fe=b at *
 by_cases h32:32 < b.size
 rotate_left
 ·rw[if_pos h32]
  refine Ok.n (R:=λc=>c=true) (Ok.t (zR (by omega)) (Ok.d rfl)) λc hc=>?_
  subst hc
  exact Ok.t rfl (Ok.d rfl)
 rw[if_neg (by grind)]
 have c3:(decide (0<=(32:Int))&&decide ((32:Int)<=(b.size:Int)))=true:=by simp;omega
 have hx:(b.extract 32 b.size).size=b.size - 32:=by simp_all
 refine Ok.n (R:=λc=>c=!okB (b.extract 32 b.size)) (by grind [Ok.f,decide_eq_false,Ok.k,Ok.c,Ua,Ok.d]) λc hc=>?_
 subst hc
 cases ho:okB (b.extract 32 b.size) with
 | false=>
  rw[if_pos rfl]
  exact Ok.t rfl (Ok.d rfl)
 | true=>
  rw[if_neg (by decide)]
  refine Ok.f rfl (Ok.k c3 (Ok.c (Mi _) λr hr=>?_))
  have hr:r.1=Zo (b.extract 32 b.size):=by grind [YK]
  rw[hr]
  clear hr
  refine Ok.c (GY (Zo (b.extract 32 b.size)) s.ft s.fj λp hp=>by have:=h.ps p hp;omega) λacc hacc=>?_
  rw[<-hacc]
  clear hacc
  by_cases ha:acc=0
  rotate_left
  ·rw[if_pos ha]
   exact Ok.t (by simpa using ha) (Ok.c (C7 s acc) λr hr=>Ok.d (by rw[hr];rfl))
  rw[if_neg (by simpa using ha)]
  have kz:=(DN ho).1
  have hb2:=(Yb ho).2
  refine Ok.f (by simpa using ha) (Ok.c (Ht _ _ h.sc hp) λf1 e1=>Ok.c (Ht _ _ h.fr kz) λf2 e2=>?_)
  have em:Ah f1 f2 s.fk.fB s.fB=Kb s b:=by rw[e1,e2];rfl
  rw[<-e1,<-e2]
  have z1:f1.size=32:=by grind [O6]
  have z2:f2.size=32:=by grind [O6]
  refine Ok.c (ES t ht f1 f2 s.fk.fB s.fB (by omega) (by omega) (by omega) (by rw[h.rn];decide)) λm hm=>?_
  rw[em] at hm
  subst hm
  clear em e1 e2
  by_cases hz:f1=Wj\/f2=Wj
  ·rw[if_pos hz]
   exact Ok.t (by grind) (Ok.c (C7 _ 2) λr hr=>Ok.d (by rw[hr];rfl))
  rw[if_neg hz]
  have mz:(Kb s b).size=32:=Ya _ _ _
  have tz0:(s.fE++b.extract 32 b.size).size<=1000:=by grind
  refine Ok.f (by grind) (Ok.k c3 (Ok.k c3 (Ok.k (by grind) (Ok.c (Wa t ht (Kb s b) EJ _ (by omega) (by decide) (by omega)) λq hq=>?_))))
  rw[<-hq]
  by_cases hc:b.extract 0 32=q
  rotate_left
  ·rw[if_pos hc]
   exact Ok.t (by grind) (Ok.c (C7 s 9) λr hr=>Ok.d (by rw[hr];rfl))
  rw[if_neg (by simpa using hc)]
  refine Ok.f (by grind) (Ok.k c3 (Ok.c (R3 n (by rw[hB];omega)) λq2 hq2=>?_))
  rw[hk,hB] at hq2
  subst hq2
  have tz:(WK s b).size<=1000:=by grind [ByteArray.size_append,K2,WK]
  have zc:(JU s b).size=32:=N9 _ _ _
  refine Ok.k (by rw[K2,zC];omega) (Ok.c (Wa t ht (Kb s b) Di (WK s b) (by omega) (by decide) (by omega)) λq3 hq3=>?_)
  rw[show q3=JU s b from hq3]
  clear hq3
  refine Ok.c (JX _ 6 5 (JU s b) h.nw (by grind) (by decide)) λr hr=>?_
  subst hr
  refine Ok.r rfl rfl (Ok.c (R3 ⟨5,s.fm,JU s b⟩ (show (JU s b).size<=100000 by omega)) λr hr=>Ok.k ?_ (Ok.d ?_))
  ·rw[hr,zC,K2]
   show (WK s b).size+(4+(JU s b).size)<=_
   omega
  ·rw[hr];rfl
end Go.Proofs.YtjdieimefebnfaaGreatDoor
